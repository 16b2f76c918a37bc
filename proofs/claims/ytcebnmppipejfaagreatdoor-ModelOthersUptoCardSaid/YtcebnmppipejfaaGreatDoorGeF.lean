import Derived.Test.YtcebnmppipejfaaGreatDoorGeE
import Derived.Tactics
set_option linter.unusedVariables false
set_option linter.unusedSimpArgs false
set_option linter.unusedSectionVars false
set_option linter.defProp false
open Option renaming some->ab,none->ah
namespace Go.Ge
open RowKit
inductive sN (all:Array Oper) (G:List (Nat×Bool)):List (Nat×Oper)->List Oper->Prop
 | nil:sN all G [] []
 | cons {i:Nat} {o o':Oper} {r:List (Nat×Oper)} {l:List Oper}:all[i]?=ab o->(o'=o\/∃g,o.guard=ab g/\g∈G/\o'={ o with guard:=ah })->sN all G r l->sN all G ((i,o')::r) (o::l)
def sN.mono{all G b}(c:∀g∈G,g∈b){items l}(h:sN all G items l):sN all b items l:=by
 induction h with
 | nil=>exact .nil
 | cons e f _ i=>exact .cons e (f.imp id λ⟨g,j,k,m⟩=>⟨g,j,c g k,m⟩) i
def Ux{all G j want}:∀{items l inner},sN all G items l ->
  ∃b e,l=b++e/\sN all ((j,want)::G) (under j want inner items).1 b/\sN all G (under j want inner items).2 e:=by
 intro items l inner h;induction h generalizing inner with
 | nil=>exact⟨[],[],rfl,.nil,.nil⟩
 | @cons i o k r l n m C x =>
   unfold under;cases f:zZ k.guard j want with
   | true =>
     obtain⟨b,e,q,s,t⟩:=x (inner:=i::inner);refine⟨o::b,e,by rw[q];rfl,.cons n (.inr ?_) s,t⟩;have D:k=o:=by
      rcases m with m|⟨g,y,z,u⟩
      .exact m
      .rw[u] at f;cases f
     subst D;unfold zZ at f;split at f
     .rename_i E A v;simp only[gy] at f;have F:=iT f.1;have H:A=want:=by simpa using f.2
      subst F;subst H;exact⟨(E,A),v,pI ..,rfl⟩
     .cases f
   | false =>
     have both:∀c,∃b e,o::l=b++e /\
       sN all ((j,want)::G) (bif c then((i,k)::(under j want (i::inner) r).1,(under j want (i::inner) r).2) else([],(i,k)::r)).1 b /\
       sN all G (bif c then((i,k)::(under j want (i::inner) r).1,(under j want (i::inner) r).2) else([],(i,k)::r)).2 e:=by
      intro c;cases c with
      | true =>
        obtain⟨b,e,q,s,t⟩:=x;exact⟨o::b,e,by rw[q];rfl,.cons n (m.imp id λ⟨g,y,z,u⟩=>⟨g,y,va _ z,u⟩) s,t⟩
      | false=>exact⟨[],o::l,rfl,.nil,.cons n m C⟩
     apply both
def Xq{d}:∀{items},oH d items=false->∀i o,(i,o)∈items->o.dst≠ab d:=by
 intro items;induction items with
 | nil=>intro _ i o h;cases h
 | cons p r c =>
   intro h i o b;simp only[oH,Ou] at h;rcases lW.1 b with b|b
   .obtain⟨rfl,rfl⟩:=cd b;intro e;rw[e] at h;simp at h
   .exact c h.2 i o b
section
variable {P:Program} {B:BA} {N:Nat} {γ:Gh} {σ aY:St} {a:Act} {w w':World} {cx:Ctx} {nb:Nat} {bf:List Nat} {inl:Nat->List cB->St->Tree (cB×St)} {all:Array Oper}
def Uy(c:Array Oper)(G:List (Nat×Bool))(a:Act)(b:List (Nat×Oper)):Prop :=
 ∀g∈G,∃e,(c[g.1]?).bind (·.dst)=ab e/\a.tmps[e]?=ab (.bool g.2)/\oH e b=false
def Uy.wanted{G items}(h:Uy all G a items){o g}(b:o.guard=ab g)(c:g∈G):Region.wanted o (yielded all a.tmps)=true:=by
 obtain⟨i,e,f,_⟩:=h g c;unfold Region.wanted;rw[b];simp only[yielded,e,Zy,f];simp
def Fr(b:List (Nat×Oper))(a c:Act):Prop:=∀t,oH t b=false->c.tmps[t]?=a.tmps[t]?
def gq{a:Act}{d:Option Nat}{v t}(h:d≠ab t):(a.put d v).tmps[t]?=a.tmps[t]?:=by
 cases d with
 | none=>rfl
 | some k =>
   have:k≠t:=λe=>h (by rw[e]);simp[Act.put,Array.getElem?_setIfInBounds_ne this]
def zn{d i o r}(h:oH d ((i,o)::r)=false):o.dst≠ab d/\oH d r=false:=by
 simp only[oH,Ou] at h;refine⟨λe=>?_,h.2⟩;rw[e] at h;simp at h
def Uz t:∀b,(σ.undef b).br t=bif oH t b then .undef else σ.br t:=by
 intro b;induction b with
 | nil=>rfl
 | cons p r c =>
   obtain⟨i,o⟩:=p;simp only[St.undef,oH];cases hd:o.dst with
   | none=>exact c
   | some k =>
     simp only[St.bD,St.put];cases f:Nat.beq k t with
     | true=>obtain rfl:=iT f;simp
     | false =>
       have:Nat.beq t k=false:=ko (λe=>by subst e;simp at f);rw[this];exact c
def wF:∀b,(σ.undef b).mem=σ.mem:=by
 intro b;induction b with
 | nil=>rfl
 | cons p r c =>
   obtain⟨i,o⟩:=p;simp only[St.undef];cases o.dst<;>exact c
def dJ.undef(h:dJ B N γ σ a w){items b}(c:Fr items a b)(f:b.tmps.size=N)(g:b.defers=[]):dJ B N γ (σ.undef items) b w where
 br:=λt=>by
  rw[Uz,wF];cases i:oH t items with
  | true=>exact⟨_,rfl⟩
  | false =>
    have:=c t i;have e:b.tmps.getD t Go.undef=a.tmps.getD t Go.undef:=by simp only[WY,this]
    rw[e];exact h.br t
 size:=f
 defers:=g
 ok:=by rw[wF];exact h.ok
def F2{d:Option Nat}{k}(h:yielded all a.tmps k=ah):yielded all (a.put d Go.undef).tmps k=none:=by
 unfold yielded at h⊢;cases f:(all[k]?).bind _ with
 | none=>rfl
 | some b =>
   rw[f] at h;simp at h⊢;by_cases e:d=ab b
   .subst e;simp only[Act.put];rw[ah7];simp;by_cases c:b<a.tmps.size
    .rw[aX c];rfl
    .rw[aR c]
   .rw[gq e];exact h
def F3{i o}(h:all[i]?=ab o):yielded all (a.put o.dst Go.undef).tmps i=none:=by
 unfold yielded;rw[h];simp;cases hd:o.dst with
 | none=>rfl
 | some d =>
   simp only[Zy,Act.put];rw[ah7];simp;by_cases b:d<a.tmps.size
   .rw[aX b];rfl
   .rw[aR b]
def Xr{G}{j E:Nat}{want c Q}(U:(all[j]?).bind (·.dst)=ab E)(F:c≠want) :
  ∀{items l inner a},sN all G items l->a.tmps[E]?=ab (.bool c)->oH E (under j want inner items).1=false->(∀k∈inner,yielded all a.tmps k=ah) ->
   ∃u x,l=u++x/\u.length=(under j want inner items).1.length/\∀e,(∀q,Fr (under j want inner items).1 a q->q.tmps.size=a.tmps.size->q.defers=a.defers->wpList P all Q e q w) ->
    wpList P all Q (u++e) a w:=by
 intro items l inner a h;induction h generalizing inner a with
 | nil=>intro _ _ _;exact⟨[],[],rfl,rfl,λe s=>s a (λt _=>rfl) rfl rfl⟩
 | @cons i o n r l V v h3 W =>
   intro S T y;have one:∀H,H.dst=o.dst->Region.wanted o (yielded all a.tmps)=false->(under j want inner ((i,n)::r)).1=(i,H)::(under j want (i::inner) r).1 ->
     ∃u x,o::l=u++x/\u.length=(under j want inner ((i,n)::r)).1.length/\∀e,(∀q,Fr (under j want inner ((i,n)::r)).1 a q->q.tmps.size=a.tmps.size->q.defers=a.defers->wpList P all Q e q w) ->
     wpList P all Q (u++e) a w:=by
    intro H z X A;rw[A] at T⊢;obtain⟨C,I⟩:=zn T;rw[z] at C;obtain⟨u,x,Y,Z,e3⟩:=W (a:=a.put o.dst Go.undef) (by rw[gq C];exact S) I (λk s=>by
     rcases lW.1 s with rfl|s
     .exact F3 V
     .exact F2 (y k s))
    refine⟨o::u,x,by rw[Y];rfl,by simp[Z],λe s=>?_⟩;show wpList P all Q (o::_) a w
    unfold wpList;rw[X];refine e3 e λq f1 f2 f3=>s q (λt ht=>?_) (f2.trans<|Ug _ _ _) (f3.trans<|put_defers _ _ _);obtain⟨D,J⟩:=zn ht;rw[z] at D;rw[f1 t J,gq D]
   cases m:zZ n.guard j want with
   | true =>
     have K:n=o:=by
      rcases v with v|⟨g,k1,k2,L⟩
      .exact v
      .rw[L] at m;cases m
     subst K;have f:n.guard=ab (j,want):=by
      unfold zZ at m;split at m
      .rename_i i' b' f;simp only[gy] at m;have h8:b'=want:=by simpa using m.2
       rw[f,(iT m.1),h8]
      .cases m
     refine one { n with guard:=ah } rfl ?_ (by simp only[under,m,zS]);unfold Region.wanted;rw[f];simp only[yielded,U,Zy,S];cases c<;>cases want<;>first|rfl|exact absurd rfl F
   | false =>
     cases f:n.guard with
     | none =>
       have A:(under j want inner ((i,n)::r)).1=[]:=by
        rw[f] at m;simp only[under,f,m,Fu]
       rw[A];exact⟨[],o::l,rfl,rfl,λe s=>s a (λt _=>rfl) rfl rfl⟩
     | some g =>
       obtain⟨k,b⟩:=g;rw[f] at m;cases M:inner.any (Nat.beq k) with
       | true =>
         have K:n=o:=by
          rcases v with v|⟨g,k1,k2,L⟩
          .exact v
          .rw[L] at f;cases f
         subst K;refine one n rfl ?_ (by simp only[under,f,m,M,Fu,zS]);obtain⟨k',O,R⟩:=P6.1 M;obtain rfl:=iT R;unfold Region.wanted;rw[f];simp only[y k O];rfl
       | false =>
         have A:(under j want inner ((i,n)::r)).1=[]:=by simp only[under,f,m,M,Fu]
         rw[A];exact⟨[],o::l,rfl,rfl,λe s=>s a (λt _=>rfl) rfl rfl⟩
end
end Go.Ge
namespace Go.Ge
open RowKit
section
variable {P:Program} {B:BA} {N:Nat} {γ:Gh} {σ aY:St} {a:Act} {w w':World} {cx:Ctx} {nb:Nat} {bf:List Nat} {inl:Nat->List cB->St->Tree (cB×St)} {all:Array Oper}
def Mf σ items:b7 σ (σ.undef items):=b7.aed (wF items)
def F4(h:∀f i σ v aY,(inl f i σ).run=ab (v,aY)->b7 σ aY):∀n b σ,bq σ (rG cx nb bf inl all n b σ):=by
 intro n;induction n with
 | zero=>intro b σ;exact bq.fail
 | succ n k =>
   intro b σ;cases b with
   | nil=>exact bq.ret (b7.refl _)
   | cons p r =>
     unfold rG;split
     .exact bq.bind λb5 l y g=>(B2 h b5 l).trans (k _ _ y g)
     .rename_i j e C;dsimp only;split
      .exact bq.fail
      .rename_i u z;split
       .rename_i c D E t m o;cases F:oH u (under j e [] _).1 with
        | true=>exact bq.fail
        | false =>
          split
          .exact bq.fail
          .cases A:KE cx (under j e [] _).1 with
           | true =>
             intro y g;obtain⟨cP,l,q⟩:=bind_some g;refine b7.trans ?_ (k _ _ y q);refine(bq.node ?_ ?_) cP l
             .refine bq.bind λτ s=>?_;split
              .exact bq.ret ((k _ _ τ s).trans<|b7.bD _ _ _)
              .exact bq.fail
             .split
              .exact bq.ret ((Mf _ _).trans<|b7.bD _ _ _)
              .exact bq.fail
           | false =>
             simp;split
             .intro y g;rw[Tree.BL] at g;obtain⟨x,l,q⟩:=Ds.1 g;exact((Mf _ _).trans<|b7.put _ _ _).trans (k _ _ y q)
             .exact bq.fail
       .exact bq.fail
def ZM{mem t v x val}(h:toD t v=ab x)(b:cM γ mem w v .val [val]){cT}:cM γ cT w (.data t x) .val [val]:=by
 unfold toD at h;split at h
 .obtain⟨q,c⟩:=Ty.lX h;subst q;subst c;exact b
 .split at h
  .obtain rfl:=aQ h;obtain rfl:val=_:=by simpa [cM] using b
   exact⟨[.slice ah 0 0],.inl ⟨⟨ah,rfl⟩,rfl⟩,rfl⟩
  .cases h
 .cases h
def sN.length{G items l}(h:sN all G items l):items.length=l.length:=by
 induction h with
 | nil=>rfl
 | cons _ _ _ b=>simp[b]
def Xs{g i b v K Q}(h:dJ B N γ σ a w)(l:a.tmps[i]?=ab (.bool b)){want}(m:b=want)
  (e:z6 σ g i want=ab v) (n:∀y,cM γ σ.mem w v .val [y]->K (a.put g.dst y) w):g.wp P a w K Q:=by
 unfold z6 at e;split at e
 .rename_i c x y j;cases k:Nat.beq c i with
  | false=>rw[k] at e;cases e
  | true =>
    obtain rfl:=iT k;rw[k] at e;obtain rfl:=aQ e;subst m;have o:a.eval (.tmp c)=.bool b:=by simp[Act.eval,l]
    unfold Oper.wp;have f:(execOp a.eval g).run P w=.ok (.value<|a.eval<|bif b then x else y) w:=by
     simp only[execOp,j,o];cases b<;>rfl
    rw[f];exact n _ (h.dw _)
 .cases e
def Uy.put{G i o r}(h:Uy all G a ((i,o)::r)) v:Uy all G (a.put o.dst v) r:=by
 intro g b;obtain⟨c,e,f,j⟩:=h g b;obtain⟨k,l⟩:=zn j;exact⟨c,e,by rw[gq k];exact f,l⟩
def Xt{d j want}:∀{items inner},oH d items=(oH d (under j want inner items).1||oH d (under j want inner items).2):=by
 intro items;induction items with
 | nil=>intro inner;rfl
 | cons p r b =>
   obtain⟨i,o⟩:=p;intro inner;unfold under;cases e:zZ o.guard j want with
   | true=>simp only[zS,oH,ZD];rw[b (inner:=i::inner)]
   | false =>
     have both:∀c,oH d ((i,o)::r)=(oH d (bif c then((i,o)::(under j want (i::inner) r).1,(under j want (i::inner) r).2) else([],(i,o)::r)).1 ||
       oH d (bif c then((i,o)::(under j want (i::inner) r).1,(under j want (i::inner) r).2) else([],(i,o)::r)).2):=by
      intro c;cases c with
      | true=>simp only[zS,oH,ZD];rw[b]
      | false=>simp[oH]
     apply both
def Xu{p:Option Nat->Prop}{j want}:∀{items inner},(∀i o,(i,o)∈items->p o.dst) ->
  (∀i o,(i,o)∈(under j want inner items).1->p o.dst)/\(∀i o,(i,o)∈(under j want inner items).2->p o.dst):=by
 intro items;induction items with
 | nil=>intro inner h;exact⟨h,h⟩
 | cons q r l =>
   obtain⟨e,f⟩:=q;intro inner h;have m:=h e f (pI ..);have n:=λi o b=>h i o (va _ b);unfold under;cases s:zZ f.guard j want with
   | true =>
     obtain⟨g,k⟩:=l n;refine⟨λi o b=>?_,k⟩;rcases lW.1 b with b|b
     .obtain⟨_,rfl⟩:=cd b;exact m
     .exact g i o b
   | false =>
     have both:∀c,(∀i o,(i,o)∈(bif c then((e,f)::(under j want (e::inner) r).1,(under j want (e::inner) r).2) else([],(e,f)::r)).1->p o.dst) /\
       (∀i o,(i,o)∈(bif c then((e,f)::(under j want (e::inner) r).1,(under j want (e::inner) r).2) else([],(e,f)::r)).2->p o.dst):=by
      intro c;cases c with
      | true =>
        obtain⟨g,k⟩:=l n;refine⟨λi o b=>?_,k⟩;rcases lW.1 b with b|b
        .obtain⟨_,rfl⟩:=cd b;exact m
        .exact g i o b
      | false=>exact⟨λi o b=>(by cases b),h⟩
     apply both
def I6{t}{b:Bool}(h:dJ B N γ σ a w)(f:σ.br t=.data .bool b):a.tmps[t]?=ab (.bool b):=by
 have:=h.br t;rw[f] at this;have e:=z8 this;rw[WY] at e;cases c:a.tmps[t]? with
 | none=>rw[c] at e;cases e
 | some y=>rw[c] at e;exact congrArg ab e
def UA{α c want}{t e:Tree α}{y}(h:(Tree.node (bif want then c else nt c) t e).run=ab y):(c=want/\t.run=ab y)\/(c≠want/\c=(!want)/\e.run=ab y):=by
 have:=gN h;cases c<;>cases want
 .exact .inl ⟨rfl,this⟩
 .exact .inr ⟨bb,rfl,this⟩
 .exact .inr ⟨bb,rfl,this⟩
 .exact .inl ⟨rfl,this⟩
def OM(hc:fS P cx)(agP:qX P B.G cx)(agQ:xV P B.G inl)(akk:∀f aiV σ v aY,(inl f aiV σ).run=ab (v,aY)->b7 σ aY){Q} :
  ∀n {items l rest σ aY γ a w G},sN all G items l->Uy all G a items->(∀i o,(i,o)∈items->∀k,o.dst=ab k->k<N) ->
   (rG cx nb bf inl all n items σ).run=ab aY->dJ B N γ σ a w ->
   (∀bJ a' w',dJ B N bJ aY a' w'->Ext B γ σ.mem w bJ aY.mem w'->Fr items a a'->wpList P all Q rest a' w')->wpList P all Q (l++rest) a w:=by
 intro n;induction n with
 | zero=>intro items l rest σ aY γ a w G _ _ _ s;cases s
 | succ n ih =>
   intro items l rest σ aY γ a w G hit hG hd s h hK;cases hit with
   | nil =>
     obtain rfl:=aQ s;exact hK γ a w h (Ext.refl _ _ _ _) (λt _=>rfl)
   | @cons i o o' r l h1 h2 h3 =>
     have O:o'.dst=o.dst:=by rcases h2 with rfl|⟨_,_,_,rfl⟩<;>rfl
     unfold rG at s;split at s
     .rename_i hg;obtain⟨b5,r1,r2⟩:=bind_some s;have hw:Region.wanted o (yielded all a.tmps)=true:=by
       rcases h2 with rfl|⟨g,k1,k2,k3⟩
       .unfold Region.wanted;rw[hg]
       .exact hG.wanted k1 k2
      have r1':(rF cx nb bf inl o σ).run=ab b5:=by
       rcases h2 with rfl|⟨g,k1,k2,rfl⟩
       .exact r1
       .exact r1
      show wpList P all Q (o::_) a w
      unfold wpList;rw[hw];refine .inl (L7 hc agP agQ h (λk X=>hd i o' (pI ..) k (by rw[O];exact X)) r1' λu v L R x1=>?_);have hG':=hG.put v;rw[O] at hG';refine ih h3 hG' (λi o hm=>hd i o (va _ hm)) r2 R λS a2 w2 s2 x2 f2=>hK S a2 w2 s2 (x1.trans x2) λt ht=>?_;obtain⟨t1,Y⟩:=zn ht;rw[f2 t Y,gq (by rw[<-O];exact t1)]
     .rename_i j m hg;dsimp only at s;split at s
      .exact absurd s cl
      rename_i dj hdj;split at s
      case h_2=>exact absurd s cl
      rename_i c ip pk F akl aee;cases hh:oH dj (under j m [] _).1 with
      | true=>rw[hh] at s;exact absurd s cl
      | false =>
      rw[hh] at s;split at s
      .exact absurd s cl
      rename_i hpg;have T:=I6 h akl;obtain⟨l1,l2,e1,I1,I2⟩:=Ux (sN.cons h1 h2 h3);obtain⟨d1,d2⟩:=Xu (p:=λd=>∀k,d=ab k->k<N) hd;have U:∀d,oH d ((i,o')::r)=(oH d (under j m [] _).1||oH d (under j m [] _).2):=λd=>Xt;have akm:=λq=>Xr (P:=P) (w:=w) (Q:=Q) hdj q (sN.cons h1 h2 h3) T hh Fm;generalize hg1:(under j m [] _).1=Z at *;rw[aee] at I2 d2 U;cases I2 with
      | @cons _ z _ _ l2' p1 p2 p3 =>
      have H:pk.dst=z.dst:=by rcases p2 with rfl|⟨_,_,_,rfl⟩<;>rfl
      have al5:pk.op=z.op:=by rcases p2 with rfl|⟨_,_,_,rfl⟩<;>rfl
      rw[e1,uw];have C:∀{d},oH d ((i,o')::r)=false->oH d Z=false/\z.dst≠ab d/\oH d F=false:=by
       intro d hd0;rw[U] at hd0;simp at hd0;obtain⟨q1,q2⟩:=zn hd0.2;exact⟨hd0.1,by rw[<-H];exact q1,q2⟩
      have tail:∀u τ cP A L v b,dJ B N u τ A L->Fr Z a A->c=b->z6 τ pk dj b=ab v ->
        (∀y,cM u τ.mem L v .val [y]->∃S,dJ B N S cP (A.put z.dst y) L/\Ext B γ σ.mem w S cP.mem L)->(rG cx nb bf inl all n F cP).run=ab aY ->
        wpList P all Q (z::l2'++rest) A L:=by
       intro u τ cP A L v b R E hcb D hy I;have hGp:Uy all G A ((ip,pk)::F):=λg V=>by
        obtain⟨dj',k1,k2,k3⟩:=hG g V;obtain⟨q1,q2,q3⟩:=C k3;refine⟨dj',k1,by rw[E dj' q1];exact k2,?_⟩;simp only[oH,Ou];refine⟨?_,q3⟩;cases M:pk.dst with
        | none=>rfl
        | some k=>exact ko λe=>q2 (by rw[<-H,M,e])
       have hwp:Region.wanted z (yielded all A.tmps)=true:=by
        rcases p2 with rfl|⟨g,k1,k2,k3⟩
        .unfold Region.wanted;rw[hpg]
        .exact hGp.wanted k1 k2
       show wpList P all Q (z::_) A L
       unfold wpList;rw[hwp];have al6:z6 τ z dj b=ab v:=by rw[<-D];unfold z6;rw[al5]
       refine .inl (Xs R (by rw[E dj hh];exact T) hcb al6 λy hyr=>?_);obtain⟨S,s2,x2⟩:=hy y hyr;have hGr:=hGp.put y;rw[H] at hGr;refine ih p3 hGr (λi o hm=>d2 i o (va _ hm)) I s2 λγ3 a3 w3 s3 x3 f3=>hK γ3 a3 w3 s3 (x2.trans x3) λt ht=>?_;obtain⟨q1,q2,q3⟩:=C ht;rw[f3 t q3,gq q2,E t q1]
      have W:∀(τ:St) d v,(τ.bD d v).mem=τ.mem:=λτ d v=>by cases d<;>rfl
      have M:=λk X=>d2 ip pk (pI ..) k (by rw[H];exact X);have hG1:c=m->Uy all ((j,m)::G) a Z:=λq g V=>by
       rcases lW.1 V with rfl|V
       .exact⟨dj,hdj,by rw[<-q];exact T,hh⟩
       .obtain⟨dj',k1,k2,k3⟩:=hG g V;exact⟨dj',k1,k2,(C k3).1⟩
      have kH:c≠m->(∀A,Fr Z a A->A.tmps.size=a.tmps.size->A.defers=a.defers->wpList P all Q (z::l2'++rest) A w)->wpList P all Q (l1++(z::l2'++rest)) a w:=by
       intro q X;obtain⟨m1,m2,q1,q2,q3⟩:=akm q;rw[e1] at q1;obtain⟨rfl,rfl⟩:=List.append_inj q1 (by rw[q2,I1.length]);exact q3 _ X
      cases ZL:KE cx Z with
      | true =>
        rw[ZL] at s;obtain⟨cP,J,I⟩:=bind_some s;rcases UA J with ⟨q,J⟩|⟨q,hcn,J⟩
        .obtain⟨τ,t1,Y⟩:=bind_some J;split at Y
         .rename_i v D;obtain rfl:=aQ Y;refine ih I1 (hG1 q) d1 t1 h λu A L R x1 E=>tail u τ _ A L v m R E q D (λy hy=>⟨u,?_,?_⟩) I
          .rw[H];exact R.wN M hy
          .rw[W];exact x1
         .exact absurd Y cl
        .split at J
         .rename_i v D;obtain rfl:=aQ J;refine kH q λA E f2 f3=>tail γ (σ.undef Z) _ A w v (!m) (h.undef E (f2.trans h.size)<|f3.trans h.defers) E hcn D (λy hy=>⟨γ,?_,?_⟩) I
          .rw[H];exact(h.undef E (f2.trans h.size)<|f3.trans h.defers).wN M hy
          .rw[W,wF];apply Ext.refl
         .exact absurd J cl
      | false =>
        rw[ZL] at s;simp at s;split at s
        case h_2=>exact absurd s cl
        rename_i t dp hT hdp;rw[Tree.BL] at s;obtain⟨x,J,I⟩:=Ds.1 s;have K:z.dst=ab dp:=by rw[<-H];exact hdp
        rcases UA J with ⟨q,J⟩|⟨q,hcn,J⟩
        .obtain⟨τ,t1,Y⟩:=bind_some J;split at Y
         .rename_i x' D;obtain rfl:=aQ Y;obtain⟨v,hv1,hv2⟩:=Ds.1 D;refine ih I1 (hG1 q) d1 t1 h.js λu A L R x1 E=>tail u τ _ A L v m R E q hv1 (λy hy=>?_) I;obtain⟨m1,m2⟩:=h.ok.unlock (RU<|F4 akk n Z _ τ t1) R.ok x1;refine⟨u,?_,?_⟩
          .rw[K];exact((h.go m2 m1).undef E R.size R.defers).wN (λk X=>M k (by rw[K];exact X)) (ZM hv2 hy)
          .show Ext B γ σ.mem w u (σ.undef Z).mem L
           rw[wF];exact m2
         .exact absurd Y cl
        .split at J
         .rename_i x' D;obtain rfl:=aQ J;obtain⟨v,hv1,hv2⟩:=Ds.1 D;refine kH q λA E f2 f3=>tail γ _ _ A w v _ (h.undef E (f2.trans h.size)<|f3.trans h.defers) E hcn hv1 (λy hy=>⟨γ,?_,?_⟩) I
          .rw[K];exact(h.undef E (f2.trans h.size)<|f3.trans h.defers).wN (λk X=>M k (by rw[K];exact X)) (ZM hv2 hy)
          .show Ext B γ σ.mem w γ (σ.undef Z).mem w
           rw[wF];apply Ext.refl
         .exact absurd J cl
end
end Go.Ge
namespace Go.Ge
open RowKit
section
variable {P:Program} {B:BA} {N:Nat} {γ:Gh} {σ aY:St} {a:Act} {w w':World} {cx:Ctx} {nb:Nat} {bf:List Nat} {inl:Nat->List cB->St->Tree (cB×St)} {ops:Array Oper}
def RV:∀{l:List Oper} {k:Nat},(∀j,l[j]?=ops[k+j]?)->sN ops [] (number k l) l:=by
 intro l;induction l with
 | nil=>intro k _;exact .nil
 | cons o l b =>
   intro k h;refine .cons ?_ (.inl rfl) (b λj=>by have:=h (j+1);simpa [Ft,ZE 1 j] using this);have:=h 0;simpa using this.symm
def Xv:∀{l:List Oper} {k i:Nat} {o:Oper},(i,o)∈number k l->o∈l:=by
 intro l;induction l with
 | nil=>intro k i o h;cases h
 | cons p l b =>
   intro k i o h;rcases lW.1 h with h|h
   .obtain⟨_,rfl⟩:=cd h;exact pI ..
   .exact va _ (b h)
def RW(n:fS P cx)(c:qX P B.G cx)(e:xV P B.G inl)(b:∀f g σ v aY,(inl f g σ).run=ab (v,aY)->b7 σ aY){Q:Exit->Act->World->Prop}{id:Nat}
  (q:∀o∈ops.toList,∀k,o.dst=ab k->k<N) (r:(Lv cx nb bf inl ops σ).run=ab aY) (h:dJ B N γ σ a w)
  (t:∀bJ m w',dJ B N bJ aY m w'->Ext B γ σ.mem w bJ aY.mem w'->Fr (number 0 ops.toList) a m->Q .normal m w'):(Code.region id ops false).wp P Q a w:=by
 refine wp_region_list ?_;have:=OM (all:=ops) (Q:=Q) (rest:=[]) n c e b _ (RV (l:=ops.toList) (k:=0) λj=>bb) Fm (λi o u=>q o (Xv u)) r h
  (λbJ m w' s x f=>wpList_nil (t bJ m w' s x f))
 simpa using this
end
end Go.Ge
namespace Go.Ge
open RowKit
def vd(p:Nat->Prop)(e c:St):Prop:=∀b,c.mem b=e.mem b\/(c.mem b≠ah/\p b)
section
variable {p:Nat->Prop} {σ τ ρ:St}
def vd.refl σ:vd p σ σ:=λ_=>.inl rfl
def vd.aed(h:τ.mem=σ.mem):vd p σ τ:=λb=>.inl (by rw[h])
def vd.trans(h:vd p σ τ)(k:vd p τ ρ):vd p σ ρ:=λb=>by
 rcases k b with c|c
 .rcases h b with e|⟨e,f⟩
  .exact .inl (c.trans e)
  .exact .inr ⟨by rw[c];exact e,f⟩
 .exact .inr c
def vd.bD σ d v:vd p σ (σ.bD d v):=by cases d<;>exact λ_=>.inl rfl
def vd.put σ d v:vd p σ (σ.put d v):=λ_=>.inl rfl
def vd.cg{b bx}(h:p b):vd p σ (σ.cg b bx):=λc=>by
 by_cases e:c=b
 .subst e;exact .inr ⟨by simp[St.cg],h⟩
 .exact .inl (by rw[wP,bg _ e])
end
def cj(p:Nat->Prop)(b:St)(T:Tree St):Prop:=∀y,T.run=ab y->vd p b y
section
variable {p:Nat->Prop} {σ:St}
def cj.fail:cj p σ .fail:=λy h=>by cases h
def cj.ret{aY}(h:vd p σ aY):cj p σ (.ret aY):=λy b=>by obtain rfl:=aQ b;exact h
def cj.bif{c t}(h:cj p σ t):cj p σ (bif c then t else .fail):=λy b=>h y (aI b).2
def cj.jG{c t}(h:cj p σ t):cj p σ (.jG c t):=λy b=>h y (cO b).2
def cj.look{T}{o:Option T}{k}(h:∀x,cj p σ (k x)):cj p σ (.look o k):=λy b=>by obtain⟨x,_,c⟩:=cm b;exact h x y c
def cj.node{c t e}(h:cj p σ t)(k:cj p σ e):cj p σ (.node c t e):=λy b=>by
 have:=gN b;cases c with
 | true=>exact h y this
 | false=>exact k y this
def cj.bind{α}{t:Tree α}{f}(h:∀x,t.run=ab x->cj p σ (f x)):cj p σ (t.bind f):=λy b=>by obtain⟨x,c,e⟩:=bind_some b;exact h x c y e
def cj.bF{b val tid buf d}{v:Nat->cB}(h:p b):cj p σ (σ.bF b val tid buf λc σ=>.ret (σ.put d<|v c)):=λy e=>by
 obtain⟨c,g,f⟩:=n0 e;obtain rfl:=aQ f;exact(vd.cg h).trans (vd.put _ _ _)
def Mg{σ aY b}(g:∀b,σ.mem b≠ah->p b)(h:freeze σ b=ab aY):vd p σ aY:=by
 unfold freeze at h;split at h
 .rename_i f i;cases c:f.ro with
  | true=>simp only[c,zS,Lf] at h;rw[<-h];apply vd.refl
  | false =>
    cases e:f.lk with
    | true=>simp[c,e] at h
    | false =>
      simp only[c,e,Fu,Lf] at h;rw[<-h];exact vd.cg (g b<|by rw[i];simp)
 .cases h
def J4(p:Nat->Prop)(e c:St):Prop:=(∀b,e.mem b≠ah->p b)->vd p e c/\∀b,c.mem b≠ah->p b
def J4.refl σ:J4 p σ σ:=λh=>⟨vd.refl _,h⟩
def J4.trans{σ τ ρ}(h:J4 p σ τ)(k:J4 p τ ρ):J4 p σ ρ:=λb=>by
 obtain⟨c,e⟩:=h b;obtain⟨f,g⟩:=k e;exact⟨c.trans f,g⟩
def J4.of{σ aY}(h:(∀b,σ.mem b≠ah->p b)->vd p σ aY):J4 p σ aY:=λc=>by
 refine⟨h c,λb e=>?_⟩;rcases h c b with k|k
 .exact c b (by rw[<-k];exact e)
 .exact k.2
def UB:∀{v σ aY},jq σ v=ab aY->J4 p σ aY:=by
 intro v;induction v with
 | mix p q c e =>
   intro σ aY h;obtain⟨b5,g,i⟩:=xT h;exact(c g).trans (e i)
 | whole b aU=>intro σ aY h;exact J4.of λf=>Mg f h
 | part b aU lo n=>intro σ aY h;exact J4.of λf=>Mg f h
 | _=>intro σ aY h;obtain rfl:=aQ h;apply J4.refl
def zo{t x v σ aY}(h:BM σ t v=ab (x,aY)):J4 p σ aY:=by
 unfold BM at h;split at h
 .split at h
  .obtain⟨_,rfl⟩:=cd (aQ h);apply J4.refl
  .cases h
 .split at h
  .rename_i y b5 c b;obtain⟨_,rfl⟩:=cd (aQ h);exact UB b
  .cases h
def B3:∀{A x vs σ aY},lY σ A vs=ab (x,aY)->J4 p σ aY:=by
 intro A;induction A with
 | pair t r e c =>
   intro x vs σ aY b;cases vs with
   | nil=>cases b
   | cons v vs =>
     simp only[lY] at b;split at b
     .rename_i p b5 f;split at b
      .rename_i q cP g;obtain⟨_,rfl⟩:=cd (aQ b);exact(zo f).trans (c g)
      .cases b
     .cases b
 | unit =>
   intro x vs σ aY b;cases vs with
   | nil=>obtain⟨_,rfl⟩:=cd (aQ b);apply J4.refl
   | cons v vs=>cases b
 | _=>intro x vs σ aY b;cases vs<;>cases b
def Mh{t}:∀{parts x b σ aY},gY σ t x parts=ab (b,aY)->J4 p σ aY:=by
 intro parts;induction parts with
 | nil=>intro x b σ aY h;obtain⟨_,rfl⟩:=cd (aQ h);apply J4.refl
 | cons p r c =>
   intro x b σ aY h;simp only[gY] at h;split at h
   .split at h
    .rename_i e;split at h
     .exact(zo e).trans (c h)
     .cases h
    .cases h
   .cases h
def yH{e}:∀{parts l c σ aY},fP σ e l parts=ab (c,aY)->J4 p σ aY:=by
 intro parts;induction parts with
 | nil=>intro x i σ aY h;obtain⟨_,rfl⟩:=cd (aQ h);apply J4.refl
 | cons p r f =>
   obtain⟨k,o⟩:=p;intro l c σ aY h;simp only[fP] at h;split at h
   .rename_i g;cases b:Nat.blt k l.length with
    | false=>rw[b] at h;cases h
    | true=>rw[b] at h;exact(zo g).trans (f h)
   .cases h
def I7{b aU k fit u σ aY}(e:(storeAt b aU k fit u σ).run=ab aY):J4 p σ aY:=J4.of λl=>by
 unfold storeAt at e;split at e
 case h_2=>exact absurd e cl
 rename_i o m;obtain⟨q,f⟩:=aI e;obtain⟨n,r,g⟩:=bind_some f;obtain⟨j,h⟩:=aI g;obtain⟨c,s,i⟩:=bind_some h;obtain rfl:=aQ i;exact vd.cg (l b<|by rw[m];simp)
def UC{b aU l n u σ aY}(e:(tD b aU l n u σ).run=ab aY):J4 p σ aY:=J4.of λm=>by
 unfold tD at e;split at e
 case h_2=>exact absurd e cl
 rename_i s o;obtain⟨t,f⟩:=aI e;obtain⟨q,v,g⟩:=bind_some f;obtain⟨k,h⟩:=aI g;obtain⟨c,x,i⟩:=bind_some h;obtain⟨r,j⟩:=aI i;obtain rfl:=aQ j;exact vd.cg (m b<|by rw[o];simp)
def ON{cx bf ty x y σ aY}(e:(mV cx bf ty x y σ).run=ab aY):J4 p σ aY:=by
 unfold mV at e;split at e
 case h_2=>exact absurd e cl
 split at e
 case h_2=>exact absurd e cl
 obtain⟨g,f⟩:=aI e;obtain⟨i,l,c⟩:=bind_some f;split at c
 .rename_i u _;obtain⟨j,b⟩:=aI c;cases h:dA bf 8000000&&adP u y with
  | true=>rw[h] at b;exact UC b
  | false =>
  rw[h] at b;split at b
  .rename_i k;exact(zo k).trans (I7 b)
  .exact absurd b cl
 .obtain⟨j,b⟩:=aI c;exact I7 b
def B4{cx nb d ty s x σ aY}(g:∀k,d=ab k->p (nb+k))(h:∀b,σ.mem b≠ah->p b)(c:(iX cx nb d ty s x σ).run=ab aY):vd p σ aY:=by
 unfold iX at c;split at c
 case h_2=>exact absurd c cl
 split at c
 case h_2=>exact absurd c cl
 split at c
 .obtain⟨i,e⟩:=cO c;exact cj.bF (g _ rfl) _ e
 .split at c
  case h_2=>exact absurd c cl
  rename_i n l j o;obtain⟨m,f⟩:=Ac c;obtain⟨i,e⟩:=cO f;obtain rfl:=aQ e;exact(vd.cg<|h _<|by rw[j];simp).trans (vd.put _ _ _)
 .exact absurd c cl
def Xw{b val tid buf d}{v:Nat->cB}{σ aY}(h:p b)(e:(σ.bF b val tid buf λc σ=>.ret (σ.put d<|v c)).run=ab aY):vd p σ aY:=cj.bF h _ e
def OO{nb e d args σ aY}(f:∀k,d=ab k->p (nb+k))(g:∀b,σ.mem b≠ah->p b)(c:(mZ nb e d args σ).run=ab aY):vd p σ aY:=by
 unfold mZ at c;split at c
 case h_2=>cases c
 split at c
 case h_2=>cases c
 rename_i h;obtain⟨_,c⟩:=aI c;obtain⟨_,c⟩:=cO c;exact((zo h) g).1.trans (Xw (f _ rfl) c)
def UD{e A res spec d args σ aY}(i:∀b,σ.mem b≠ah->p b)(c:(tF e A res spec d args σ).run=ab aY):vd p σ aY:=by
 unfold tF at c;split at c
 case h_2=>cases c
 split at c
 case h_2=>cases c
 rename_i x b5 j;split at c
 case h_2=>cases c
 rename_i b m q l g;obtain⟨r,_,c⟩:=cm c;obtain⟨n,_⟩:=uE g;obtain⟨h,o⟩:=(B3 j) i;have key:∀f,vd p b5 (b5.cg b f):=λf=>vd.cg (o b<|by rw[n];simp);cases res with
 | true =>
   cases d with
   | none=>cases c
   | some k=>obtain rfl:=aQ c;exact(h.trans<|key _).trans (vd.put _ _ _)
 | false =>
   cases d with
   | none=>obtain⟨_,c⟩:=aI c;obtain rfl:=aQ c;exact(h.trans<|key _).trans (vd.bD _ ah _)
   | some k=>obtain⟨_,c⟩:=aI c;obtain rfl:=aQ c;exact(h.trans<|key _).trans (vd.bD _ _ _)
end
def OP{p:Prop}(h:p:=by
 repeat' (first
  | exact cj.fail|exact cj.ret (vd.bD _ _ _)|exact cj.ret (vd.put _ _ _)|exact cj.bF (by assumption)
  | refine cj.bif ?_|refine cj.jG ?_|refine cj.look λ_=>?_|refine cj.node ?_ ?_|refine cj.bind λ_ _=>?_|split)):p:=h
section
variable {cx:Ctx} {nb:Nat} {bf:List Nat} {d:Option Nat} {σ:St} {p:Nat->Prop}
def RX{c a b}:cj p σ (pR d c a b σ):=by unfold pR;exact OP
def RY{ty a}:cj p σ (mA cx d ty a σ):=by unfold mA;exact OP
def OQ{ty x lo hi}:cj p σ (mW cx d ty x lo hi σ):=by unfold mW;exact OP
def aa8{b aU i}:∀{m k},cj p σ (Lu d b aU σ i m k):=by
 intro m;induction m with
 | zero=>exact cj.fail
 | succ m c=>exact cj.node (cj.ret<|vd.bD _ _ _) c
def xY{ty x i}:cj p σ (eZ cx d ty x i σ):=by
 unfold eZ;split
 case h_6=>split
           .exact cj.bif aa8
           .exact cj.fail
 all_goals exact OP
def OR{ty x i}:cj p σ (mX cx d ty x i σ):=by
 unfold mX;split
 .refine cj.bif ?_;split
  .exact cj.bif (cj.ret<|vd.bD _ _ _)
  .exact cj.fail
 .exact xY
def OS{ty x i}:cj p σ (mY cx d ty x i σ):=by unfold mY;exact OP
def F5{s x k}:cj p σ (fy cx d s x k σ):=by unfold fy;exact OP
def B5{ty v}(b:∀k,d=ab k->p (nb+k)):cj p σ (km cx nb bf d ty v σ):=by
 unfold km;split
 .exact OP
 .split
  .rename_i k e _;cases dA bf k with
   | true=>exact cj.bF (b _ rfl)
   | false=>exact cj.ret (vd.put _ _ _)
  .exact cj.ret (vd.bD _ _ _)
 .exact cj.ret (vd.bD _ _ _)
def J5{s t x}(b:∀k,d=ab k->p (nb+k)):cj p σ (iD cx nb d s t x σ):=by
 unfold iD;split
 .exact OP
 .exact OP
 .split
  .exact cj.jG (cj.bF<|b _ rfl)
  .exact cj.fail
 .exact OP
 .exact OP
def Xx{o ge}(M:rH o σ=ge)(F:cls cx ge o≠3)(q:cls cx ge o≠0->∀k,o.dst=ab k->p (nb+k))(D:cls cx ge o≠0->cls cx ge o≠1->∀b,σ.mem b≠ah->p b):cj p σ (rF cx nb bf BQ o σ):=by
 unfold rF;split
 case h_1 x h=>exact B5 (q<|by simp[cls,h])
 case h_2 x h=>exact B5 (q<|by simp[cls,h])
 case h_3=>exact RX
 case h_4 e h =>
  split
  .rename_i k t T I;have X:cls cx ge o≠0:=by
    cases t<;>simp[cls,h,I]
   unfold wC;split
   .exact absurd (by simp[cls,h,I]) F
   .exact cj.bF (q X _<|by assumption)
  .rename_i I;split
   .rename_i G;exact absurd (by simp[cls,h,I,G]) F
   .rename_i G;exact cj.bif (cj.bF<|q (by simp[cls,h,I,G]) _<|by assumption)
  .exact cj.fail
 case h_5 e x h =>
  unfold Fy;split
  .exact cj.fail
  .exact cj.fail
  .split
   .rename_i G;exact absurd (by simp[cls,h,G]) F
   .rename_i G;exact cj.bF (q (by simp[cls,h,G]) _<|by assumption)
  .exact cj.fail
 case h_6 t ps h =>
  have j:=D (by simp[cls,h]) (by simp[cls,h]);split
  .split
   .rename_i z;exact cj.ret ((Mh z j).1.trans<|vd.bD _ _ _)
   .exact cj.fail
  .split
   .rename_i z;exact cj.ret ((yH z j).1.trans<|vd.bD _ _ _)
   .exact cj.fail
  .exact OP
  .exact cj.fail
 case h_7 t n ps h =>
  have j:=D (by simp[cls,h]) (by simp[cls,h]);split
  .split
   .rename_i k J L;exact cj.bF (q (by simp[cls,h]) k (EC J).1)
   .refine cj.bif ?_;split
    .rename_i z;split
     .rename_i k T;exact λy C=>(yH z j).1.trans (cj.bF (q (by simp[cls,h]) k<|xX T) _ C)
     .exact cj.ret ((yH z j).1.trans<|vd.bD _ _ _)
    .exact cj.fail
  .unfold CV;split
   .exact cj.bif (cj.bF<|q (by simp[cls,h]) _<|by assumption)
   .exact cj.fail
  .exact cj.fail
 case h_8=>exact RY
 case h_9 t a x h =>
  have j:=D (by simp[cls,h]) (by simp[cls,h]);split
  .exact λy C=>(ON C j).1
  .exact cj.fail
 case h_10=>exact OP
 case h_11=>exact OP
 case h_12=>exact OP
 case h_13 s t x h=>exact J5 (q<|by simp[cls,h])
 case h_14=>exact OP
 case h_15=>exact OQ
 case h_16=>exact F5
 case h_17=>exact OP
 case h_18=>split
            .cases dA bf 5000000 with
             | true=>exact OR
             | false=>exact xY
            .exact cj.fail
 case h_19=>split
            .exact OS
            .exact cj.fail
 case h_20 t l c h =>
  split
  .exact cj.jG (cj.jG<|cj.bF<|q (by simp[cls,h]) _<|by assumption)
  .exact cj.fail
 case h_21=>exact OP
 case h_22 c h =>
  unfold wL;split
  .rename_i b z;split
   .exact OP
   .have H:cls cx ge o≠0:=by simp[cls,h,z]
    have U:cls cx ge o≠1:=by simp[cls,h,z]
    split
    .exact λy C=>B4 (q H) (D H U) C
    .exact λy C=>B4 (q H) (D H U) C
    .exact cj.fail
   .exact absurd (by simp[cls,h,z]) F
   .exact absurd (by simp[cls,h,z]) F
   .exact OP
   .exact OP
   .exact cj.fail
  .rename_i f E;split
   .rename_i g V O;refine cj.bif ?_;have v:ge=ab g:=by rw[<-M];simp[rH,h,E,O]
    unfold vN;split
    .rename_i e R;have key:cls cx ge o=2:=by simp[cls,h,E,v,xW R]
     have H:cls cx ge o≠0:=by rw[key];simp
     exact λy C=>OO (q H) (D H<|by rw[key];simp) C
    .rename_i e A r s R;have key:cls cx ge o=2:=by simp[cls,h,E,v,xW R]
     exact λy C=>UD (D (by rw[key];simp)<|by rw[key];simp) C
    unfold yC;split
    .rename_i Y i;split
     .split
      .exact cj.look λ_=>cj.ret (vd.bD _ _ _)
      .exact cj.fail
     .rename_i S;have key:cls cx ge o=2:=by
       unfold cls;simp only[h,E,v];split
       .rfl
       .rfl
       .simp[i,S]
      split
      .rename_i K;exact cj.look λ_=>cj.ret ((B3 K<|D (by rw[key];simp)<|by rw[key];simp).1.trans<|vd.bD _ _ _)
      .exact cj.fail
    .rename_i i;split
     .rename_i s m;unfold CU;split
      .exact absurd (by simp[cls,h,E,v,i,m]) F
      .exact absurd (by simp[cls,h,E,v,i,m]) F
      .exact cj.fail
     .rename_i m;exact absurd (by simp[cls,h,E,v,i,m]) F
   .exact cj.fail
  .rename_i r W E;have key:cls cx ge o=2:=by simp[cls,h,E]
   unfold s6;split
   .split
    .rename_i K;exact cj.look λ_=>cj.ret ((B3 K<|D (by rw[key];simp)<|by rw[key];simp).1.trans<|vd.bD _ _ _)
    .exact cj.fail
   .exact cj.fail
 case h_23 u x h =>
  have key:cls cx ge o=2:=by simp[cls,h]
  unfold sZ;split
  .split
   .split
    .rename_i K;exact cj.ret ((zo K<|D (by rw[key];simp)<|by rw[key];simp).1.trans<|vd.bD _ _ _)
    .exact cj.fail
   .exact cj.fail
  .exact cj.fail
 case h_24=>exact cj.fail
end
end Go.Ge
namespace Go.Ge
open RowKit
def Le(c e:St):Prop:=∀b f,c.mem b=ab f->e.mem b=ab f
structure Rel (b5 cP qn pT:St):Prop where
 s1:qn.br=b5.br
 s2:pT.br=cP.br
 m:∀b,pT.mem b=match qn.mem b with|some x=>ab x|none=>cP.mem b
 nv:∀b,qn.mem b=ah->b5.mem b=ah
section
variable {b5 cP qn pT ρ1 ρ2:St}
def Rel.refl(h:Le b5 cP):Rel b5 cP b5 cP where
 s1:=rfl
 s2:=rfl
 m:=λb=>by
  cases c:b5.mem b with
  | none=>rfl
  | some x=>exact h b x c
 nv:=λ_ h=>h
def Rel.le(h:Rel b5 cP qn pT):Le qn pT:=λb e c=>by rw[h.m,c]
def Rel.trans(h:Rel b5 cP qn pT)(k:Rel qn pT ρ1 ρ2):Rel b5 cP ρ1 ρ2 where
 s1:=k.s1.trans h.s1
 s2:=k.s2.trans h.s2
 m:=λb=>by
  rw[k.m b];cases c:ρ1.mem b with
  | some x=>rfl
  | none=>rw[h.m b,k.nv b c]
 nv:=λb c=>h.nv b (k.nv b c)
def Rel.cg(f:Le b5 cP){b bx}:Rel b5 cP (b5.cg b bx) (cP.cg b bx) where
 s1:=rfl
 s2:=rfl
 m:=λc=>by
  by_cases e:c=b
  .subst e;simp[St.cg]
  .rw[wP,wP,bg _ e,bg _ e];exact(Rel.refl f).m c
 nv:=λc g=>by
  by_cases e:c=b
  .subst e;simp[St.cg] at g
  .rw[wP,bg _ e] at g;exact g
def C0{σ τ}(h:τ.br=σ.br) x:dw τ x=dw σ x:=by
 cases x<;>simp[dw,h]
def C1(h:Le b5 cP){e v l}(c:jH e b5 v=ab l):jH e cP v=ab l:=by
 unfold jH at c⊢;cases v with
 | whole b aU =>
   simp only at c⊢;cases f:b5.mem b with
   | none=>rw[f] at c;cases c
   | some g=>rw[f] at c;rw[h b g f];exact c
 | part b aU lo n =>
   simp only at c⊢;cases f:b5.mem b with
   | none=>rw[f] at c;cases c
   | some g=>rw[f] at c;rw[h b g f];exact c
 | data u y=>cases u<;>exact c
 | _=>exact c
def ZN(h:Le b5 cP):∀{t v x},sH b5 t v=ab x->sH cP t v=ab x:=by
 intro t;induction t with
 | slice e l=>intro v x c;exact C1 h c
 | pair a b f g =>
   intro v x c;cases v with
   | mix p q =>
     obtain⟨y,z,i,j,rfl⟩:=FR c;exact Qc (f i) (g j)
   | data u y=>exact c
   | _=>cases c
 | alt u a r f k =>
   intro v x c;cases v with
   | uz=>exact(qW c).2.1 _
   | _=>exact c
 | _=>intro v x c;cases v<;>exact c
def rQ(h:Le b5 cP){b aU}(c:live b5 b aU=true):live cP b aU=true:=by
 unfold live at c⊢;cases e:b5.mem b with
 | none=>rw[e] at c;cases c
 | some f=>rw[e] at c;rw[h b f e];exact c
def aef(h:Le b5 cP){v n}(c:lenOf b5 v=ab n):lenOf cP v=ab n:=by
 unfold lenOf at c⊢;cases v with
 | whole b aU =>
   simp only at c⊢;cases e:b5.mem b with
   | none=>rw[e] at c;cases c
   | some f=>rw[e] at c;rw[h b f e];exact c
 | part b aU lo g =>
   simp only at c⊢;cases hv:live b5 b aU with
   | false=>rw[hv] at c;cases c
   | true=>rw[hv] at c;rw[rQ h hv];exact c
 | data u y=>cases u<;>exact c
 | _=>exact c
def aa9(h:Le b5 cP){e v l}(b:yA e b5 v=ab l):yA e cP v=ab l:=by
 unfold yA at b⊢;split at b
 .exact b
 .exact C1 h b
def Mi(h:Le b5 cP){b aU r}(c:zV b5 b aU=ab r):zV cP b aU=ab r:=by
 unfold zV at c⊢;cases e:b5.mem b with
 | none=>rw[e] at c;cases c
 | some f=>rw[e] at c;rw[h b f e];exact c
def Qh(h:Le b5 cP){b}(c:freeze b5 b=ab qn):∃pT,freeze cP b=ab pT/\Rel b5 cP qn pT:=by
 unfold freeze at c⊢;cases g:b5.mem b with
 | none=>rw[g] at c;cases c
 | some i =>
   rw[g] at c;rw[h b i g];cases e:i.ro with
   | true =>
     simp only[e,zS,Lf] at c⊢;subst c;exact⟨_,rfl,Rel.refl h⟩
   | false =>
     cases f:i.lk with
     | true=>simp[e,f] at c
     | false =>
       simp only[e,f,Fu,Lf] at c⊢;subst c;exact⟨_,rfl,Rel.cg h⟩
def Xy:∀{v b5 cP qn},Le b5 cP->jq b5 v=ab qn->∃pT,jq cP v=ab pT/\Rel b5 cP qn pT:=by
 intro v;induction v with
 | mix p q e f =>
   intro b5 cP qn h c;obtain⟨ρ1,i,j⟩:=xT c;obtain⟨ρ2,k,g⟩:=e h i;obtain⟨pT,l,m⟩:=f g.le j;exact⟨pT,by simp only[jq,k,l],g.trans m⟩
 | whole b aU=>intro b5 cP qn h c;exact Qh h c
 | part b aU lo n=>intro b5 cP qn h c;exact Qh h c
 | _=>intro b5 cP qn h c;obtain rfl:=aQ c;exact⟨_,rfl,Rel.refl h⟩
def C2(h:Le b5 cP){t x v}(b:BM b5 t v=ab (x,qn)):∃pT,BM cP t v=ab (x,pT)/\Rel b5 cP qn pT:=by
 unfold BM at b⊢;cases v with
 | data u y =>
   simp only at b⊢;split at b
   .rename_i z i;obtain⟨rfl,rfl⟩:=cd (aQ b);exact⟨_,rfl,Rel.refl h⟩
   .cases b
 | _ =>
   simp only at b⊢;split at b
   .rename_i y ρ1 c e;obtain⟨rfl,rfl⟩:=cd (aQ b);obtain⟨pT,f,g⟩:=Xy h e;rw[ZN h c,f];exact⟨pT,rfl,g⟩
   .cases b
def EE:∀{A x vs b5 cP qn},Le b5 cP->lY b5 A vs=ab (x,qn)->∃pT,lY cP A vs=ab (x,pT)/\Rel b5 cP qn pT:=by
 intro A;induction A with
 | pair t r g c =>
   intro x vs b5 cP qn h b;cases vs with
   | nil=>cases b
   | cons v vs =>
     simp only[lY] at b⊢;split at b
     .rename_i p ρ1 i;obtain⟨ρ2,j,e⟩:=C2 h i;split at b
      .rename_i q f k;obtain⟨rfl,rfl⟩:=cd (aQ b);obtain⟨pT,l,m⟩:=c e.le k;exact⟨pT,by simp only[j,l],e.trans m⟩
      .cases b
     .cases b
 | unit =>
   intro x vs b5 cP qn h b;cases vs with
   | nil=>obtain⟨rfl,rfl⟩:=cd (aQ b);exact⟨_,rfl,Rel.refl h⟩
   | cons v vs=>cases b
 | _=>intro x vs b5 cP qn h b;cases vs<;>cases b
def OT{t}:∀{parts x e b5 cP qn},Le b5 cP->(∀o∈parts.map (·.2),dw b5 o=dw cP o)->gY b5 t x parts=ab (e,qn) ->
  ∃pT,gY cP t x parts=ab (e,pT)/\Rel b5 cP qn pT:=by
 intro parts;induction parts with
 | nil=>intro x e b5 cP qn h g b;obtain⟨rfl,rfl⟩:=cd (aQ b);exact⟨_,rfl,Rel.refl h⟩
 | cons p r j =>
   obtain⟨k,o⟩:=p;intro x e b5 cP qn h g b;simp only[gY] at b⊢;split at b
   .rename_i u v;split at b
    .rename_i y ρ1 i;rw[(g o bb)] at i;obtain⟨ρ2,l,f⟩:=C2 h i;split at b
     .rename_i z m;obtain⟨pT,n,q⟩:=j f.le (λs c=>by rw[C0 f.s1,C0 f.s2];exact g s (by simp at c⊢;exact .inr c)) b;exact⟨pT,by simp only[l,m,n],f.trans q⟩
     .cases b
    .cases b
   .cases b
def F6{e}:∀{parts l i b5 cP qn},Le b5 cP->(∀o∈parts.map (·.2),dw b5 o=dw cP o)->fP b5 e l parts=ab (i,qn) ->
  ∃pT,fP cP e l parts=ab (i,pT)/\Rel b5 cP qn pT:=by
 intro parts;induction parts with
 | nil=>intro x v b5 cP qn h j b;obtain⟨rfl,rfl⟩:=cd (aQ b);exact⟨_,rfl,Rel.refl h⟩
 | cons p r n =>
   obtain⟨k,o⟩:=p;intro l i b5 cP qn h j b;simp only[fP] at b⊢;split at b
   .rename_i y ρ1 m;rw[(j o bb)] at m;obtain⟨ρ2,q,g⟩:=C2 h m;cases c:Nat.blt k l.length with
    | false=>rw[c] at b;cases b
    | true =>
      rw[c] at b;obtain⟨pT,s,t⟩:=n g.le (λu f=>by rw[C0 g.s1,C0 g.s2];exact j u (by simp at f⊢;exact .inr f)) b;exact⟨pT,by simp only[q,zS,s],g.trans t⟩
   .cases b
def lift(c:St)(d:Option Nat)(y:St):St :=
 { br:=match d with|some d=>λt=>bif Nat.beq t d then y.br d else c.br t|none=>c.br
   mem:=λb=>match y.mem b with|some x=>ab x|none=>c.mem b }
def aba(R:Rel b5 cP qn pT) d v:lift cP d (qn.bD d v)=pT.bD d v:=by
 have c:=funext λb=>(R.m b).symm;cases d with
 | none=>simp only[lift,St.bD,c,<-R.s2]
 | some d =>
   simp only[lift,St.bD,St.put,<-R.s2]
   congr 1
   funext t;cases e:Nat.beq t d with
   | true=>simp
   | false=>simp
def LT(b:St)(d:Option Nat)(c e:Tree St):Prop:=∀y,c.run=ab y->e.run=ab (lift b d y)
variable {d:Option Nat}
def LT.fail{T}:LT cP d .fail T:=λy h=>by cases h
def LT.ret(R:Rel b5 cP qn pT){v}:LT cP d (.ret<|qn.bD d v) (.ret<|pT.bD d v):=λy h=>by
 obtain rfl:=aQ h;rw[aba R];rfl
def LT.Xz(R:Rel b5 cP qn pT){k v}:LT cP (ab k) (.ret<|qn.put k v) (.ret<|pT.put k v):=LT.ret R
def LT.store(R:Rel b5 cP qn pT):LT cP ah (.ret qn) (.ret pT):=LT.ret (v:=.undef) R
def LT.bif{c t u}(h:LT cP d t u):LT cP d (bif c then t else .fail) (bif c then u else .fail):=by cases c<;>first|exact LT.fail|exact h
def LT.UE{c b t u}(e:c=true->b=true)(h:LT cP d t u):LT cP d (bif c then t else .fail) (bif b then u else .fail):=by
 cases c with
 | false=>exact LT.fail
 | true=>rw[e rfl];exact h
def LT.jG{c t u}(h:LT cP d t u):LT cP d (.jG c t) (.jG c u):=λy b=>by
 obtain⟨rfl,e⟩:=cO b;exact h y e
def LT.look{T}{o:Option T}{k b}(h:∀x,LT cP d (k x) (b x)):LT cP d (.look o k) (.look o b):=λy c=>by
 obtain⟨x,rfl,e⟩:=cm c;exact h x y e
def LT.node{c t e b f}(h:LT cP d t b)(k:LT cP d e f):LT cP d (.node c t e) (.node c b f):=λy g=>by
 have:=gN g;cases c with
 | true=>exact h y this
 | false=>exact k y this
def LT.bind{α}{t:Tree α}{f g}(h:∀x,t.run=ab x->LT cP d (f x) (g x)):LT cP d (t.bind f) (t.bind g):=λy c=>by
 obtain⟨x,b,e⟩:=bind_some c;rw[Tree.run_bind,b];exact h x b y e
def LT.bF(e:Le b5 cP){k b}(f:b5.mem b=cP.mem b){val tid buf}{v:Nat->cB} :
  LT cP (ab k) (b5.bF b val tid buf λc σ=>.ret (σ.put k<|v c)) (cP.bF b val tid buf λc σ=>.ret (σ.put k<|v c)):=by
 unfold St.bF;rw[<-f];cases g:b5.mem b with
 | none=>exact LT.Xz (Rel.cg e)
 | some bx =>
   simp only;cases bx.lk with
   | true=>exact LT.fail
   | false=>exact LT.Xz (Rel.cg e)
def LT.mem(c:Le b5 cP){b}{f g:Option Box->Tree St}(i:f ah=.fail)(h:∀bx,b5.mem b=ab bx->LT cP d (f<|some bx) (g<|some bx)):LT cP d (f<|b5.mem b) (g<|cP.mem b):=by
 cases e:b5.mem b with
 | none=>rw[i];exact LT.fail
 | some bx=>rw[c b bx e];exact h bx e
end
end Go.Ge
namespace Go.Ge
open RowKit
section
variable {b5 cP:St} {d:Option Nat} {cx:Ctx} {nb:Nat} {bf:List Nat} {inl:Nat->List cB->St->Tree (cB×St)}
def DO(b:Le b5 cP)(c:∀k,d=ab k->b5.mem (nb+k)=cP.mem (nb+k)){ty v}:LT cP d (km cx nb bf d ty v b5) (km cx nb bf d ty v cP):=by
 have R:=Rel.refl b;unfold km;cases v with
 | undef=>exact LT.bif (LT.ret R)
 | pQ =>
   simp only;split
   .rename_i k e _;cases dA bf k with
    | true=>exact LT.bF b (c k rfl)
    | false=>exact LT.Xz R
   .exact LT.ret R
 | _=>exact LT.ret R
def UF(e:Le b5 cP){c a b}:LT cP d (pR d c a b b5) (pR d c a b cP):=by
 have R:=Rel.refl e;unfold pR;split
 .split
  .split
   .exact LT.ret R
   .exact LT.fail
  .exact LT.node (LT.ret R) (LT.ret R)
 .exact LT.fail
def UG(c:Le b5 cP){ty a}:LT cP d (mA cx d ty a b5) (mA cx d ty a cP):=by
 have R:=Rel.refl c;unfold mA;cases a with
 | cell u x=>exact LT.bif (LT.ret R)
 | ptr b aU p =>
   ((try dsimp only);split<;>first|exact LT.fail|(rename_i e;rw[(c b) _ e];try dsimp only))
   exact LT.bif (LT.bind λx _=>LT.bif (LT.ret R))
 | _=>exact LT.fail
def Mj{qn pT}(R:Rel b5 cP qn pT){b aU p fit v}:LT cP ah (storeAt b aU p fit v qn) (storeAt b aU p fit v pT):=by
 unfold storeAt
 ((try dsimp only);split<;>first|exact LT.fail|(rename_i e;rw[(R.le b) _ e];try dsimp only))
 exact LT.bif (LT.bind λx _=>LT.bif (LT.bind λc _=>LT.store (R.trans<|Rel.cg R.le)))
def LT.al8{c t u b e}(h:LT cP d t u)(f:LT cP d b e):LT cP d (bif c then t else b) (bif c then u else e):=by cases c<;>first|exact f|exact h
def XA{qn pT}(R:Rel b5 cP qn pT){b aU p n v}:LT cP ah (tD b aU p n v qn) (tD b aU p n v pT):=by
 unfold tD
 ((try dsimp only);split<;>first|exact LT.fail|(rename_i e;rw[(R.le b) _ e];try dsimp only))
 exact LT.bif (LT.bind λx _=>LT.bif (LT.bind λc _=>LT.bif (LT.store<|R.trans<|Rel.cg R.le)))
def RZ(c:Le b5 cP){bf ty a v}:LT cP ah (mV cx bf ty a v b5) (mV cx bf ty a v cP):=by
 have R:=Rel.refl c;unfold mV;cases a with
 | ptr b aU p =>
   ((try dsimp only);split<;>first|exact LT.fail|(rename_i e;rw[(c b) _ e];try dsimp only))
   refine LT.bif (LT.bind λf _=>?_);split
   .refine LT.bif (LT.al8 (XA R) ?_);split
    .rename_i y qn g;obtain⟨pT,h,i⟩:=C2 c g;rw[h];exact Mj i
    .exact LT.fail
   .exact LT.bif (Mj R)
 | _=>exact LT.fail
def abb{n lo hi}(b:∀x∈lo.toList++hi.toList,dw b5 x=dw cP x):bounds b5 n lo hi=bounds cP n lo hi:=by
 unfold bounds
 grind
def R0(e:Le b5 cP){ty x lo hi}(i:∀x∈lo.toList++hi.toList,dw b5 x=dw cP x):LT cP d (mW cx d ty x lo hi b5) (mW cx d ty x lo hi cP):=by
 have R:=Rel.refl e;have b:∀n,bounds b5 n lo hi=bounds cP n lo hi:=λn=>abb i;unfold mW;split
 .rename_i s _;rw[b]
  ((try dsimp only);split<;>first|exact LT.fail|skip)
  exact LT.jG (LT.ret R)
 .rw[b];refine LT.bif ?_
  ((try dsimp only);split<;>first|exact LT.fail|skip)
  exact LT.jG (LT.ret R)
 .rename_i u c f l n _
  ((try dsimp only);split<;>first|exact LT.fail|(rename_i g;rw[(e c) _ g];try dsimp only))
  refine LT.bif ?_;rw[b]
  ((try dsimp only);split<;>first|exact LT.fail|skip)
  exact LT.jG (LT.ret R)
 .rename_i u c f _
  ((try dsimp only);split<;>first|exact LT.fail|(rename_i g;rw[(e c) _ g];try dsimp only))
  refine LT.bif ?_;split
  .refine LT.bif ?_;split
   .exact LT.ret R
   .rw[b]
    ((try dsimp only);split<;>first|exact LT.fail|skip)
    exact LT.jG (LT.ret R)
  .exact LT.fail
 .rw[b];refine LT.UE (λh=>?_) ?_
  .simp at h⊢;exact⟨rQ e h.1,h.2⟩
  ·((try dsimp only);split<;>first|exact LT.fail|skip)
   exact LT.jG (LT.ret R)
 .rename_i m u c f _
  ((try dsimp only);split<;>first|exact LT.fail|(rename_i g;rw[(e c) _ g];try dsimp only))
  refine LT.bif ?_;split
  .rw[b];refine LT.bif ?_
   ((try dsimp only);split<;>first|exact LT.fail|skip)
   exact LT.jG (LT.ret R)
  .exact LT.fail
 .exact LT.fail
def aeg(c:Le b5 cP){b aU i}:∀{m k},LT cP d (Lu d b aU b5 i m k) (Lu d b aU cP i m k):=by
 intro m;induction m with
 | zero=>exact LT.fail
 | succ m e=>exact LT.node (LT.ret<|Rel.refl c) e
def zp(b:Le b5 cP){ty x i}:LT cP d (eZ cx d ty x i b5) (eZ cx d ty x i cP):=by
 have R:=Rel.refl b;unfold eZ;split
 .exact LT.bif (LT.look λ_=>LT.ret R)
 .exact LT.bif (LT.look λ_=>LT.ret R)
 ·((try dsimp only);split<;>first|exact LT.fail|(rename_i c;rw[((λr e=>Mi b e)) _ c];try dsimp only))
  exact LT.bif (LT.jG<|LT.ret R)
 ·((try dsimp only);split<;>first|exact LT.fail|(rename_i c;rw[((λr e=>Mi b e)) _ c];try dsimp only))
  exact LT.bif (LT.jG<|LT.ret R)
 .exact LT.UE (rQ b) (LT.jG<|LT.ret R)
 .split
  .refine LT.UE (λh=>?_) (aeg b);simp at h⊢;exact⟨h.1,rQ b h.2⟩
  .exact LT.fail
 .exact LT.fail
def R1(b:Le b5 cP){ty x i}:LT cP d (mX cx d ty x i b5) (mX cx d ty x i cP):=by
 unfold mX;split
 .refine LT.UE (λh=>?_) ?_
  .simp at h⊢;exact⟨h.1,rQ b h.2⟩
  .split
   .exact LT.bif (LT.ret<|Rel.refl b)
   .exact LT.fail
 .exact zp b
def R4(b:Le b5 cP){ty x i}:LT cP d (mY cx d ty x i b5) (mY cx d ty x i cP):=by
 have R:=Rel.refl b;unfold mY;split
 .exact LT.look λ_=>LT.ret R
 .exact LT.bif (LT.look λ_=>LT.ret R)
 .exact LT.fail
def HC(b:Le b5 cP){s x k}:LT cP d (fy cx d s x k b5) (fy cx d s x k cP):=by
 have R:=Rel.refl b;unfold fy;split
 .refine LT.bif ?_;split
  .exact LT.ret R
  .exact LT.fail
 .refine LT.UE (rQ b) ?_;split
  .split
   .exact LT.ret R
   .exact LT.fail
  .split
   .split
    .exact LT.ret R
    .exact LT.fail
   .exact LT.fail
 .exact LT.fail
def Mk(b:Le b5 cP)(c:∀k,d=ab k->b5.mem (nb+k)=cP.mem (nb+k)){s t x}:LT cP d (iD cx nb d s t x b5) (iD cx nb d s t x cP):=by
 have R:=Rel.refl b;unfold iD;split
 .exact LT.ret R
 .exact LT.ret R
 .split
  .exact LT.jG (LT.bF b<|c _ rfl)
  .exact LT.fail
 ·((try dsimp only);split<;>first|exact LT.fail|(rename_i e;rw[((λr f=>C1 b f)) _ e];try dsimp only))
  exact LT.ret R
 .exact LT.fail
def DP(c:Le b5 cP)(h:∀k,d=ab k->b5.mem (nb+k)=cP.mem (nb+k)){ty s x}:LT cP d (iX cx nb d ty s x b5) (iX cx nb d ty s x cP):=by
 unfold iX;split
 .rename_i k e _
  ((try dsimp only);split<;>first|exact LT.fail|(rename_i f;rw[((λr (i:_=ab r)=>aa9 c i)) _ f];try dsimp only))
  split
  .exact LT.jG (LT.bF c<|h _ rfl)
  .rename_i b j;cases f:b5.mem b with
   | none=>exact LT.fail
   | some g =>
     rw[c b g f];cases m:jH e b5 _ with
     | none=>exact LT.fail
     | some l =>
       rw[C1 c m];simp only;cases (g.lk||!aiH cx ty g.tid) with
       | true=>exact LT.fail
       | false=>exact LT.jG (LT.Xz<|Rel.cg c)
  .exact LT.fail
 .exact LT.fail
def abc(c:Le b5 cP){f args}(h:find cx.con f≠ah):LT cP d (yC cx BQ d f args b5) (yC cx inl d f args cP):=by
 unfold yC;split
 .split
  .have key:∀{A vs x},jr b5 A vs=ab x->jr cP A vs=ab x:=by
    intro A;induction A with
    | pair t r i e =>
      intro vs x b;cases vs with
      | nil=>cases b
      | cons v vs =>
        simp only[jr] at b⊢;split at b
        .rename_i p q j g;rw[ZN c j,e g];exact b
        .cases b
    | unit=>intro vs x b;cases vs<;>exact b
    | _=>intro vs x b;cases vs<;>cases b
   ((try dsimp only);split<;>first|exact LT.fail|(rename_i g;rw[((λr (k:_=ab r)=>key k)) _ g];try dsimp only))
   exact LT.look λ_=>LT.ret (Rel.refl c)
  .split
   .rename_i x qn l;obtain⟨pT,m,n⟩:=EE c l;rw[m];exact LT.look λ_=>LT.ret n
   .exact LT.fail
 .grind
def LT.ZO{qn pT}(R:Rel b5 cP qn pT){k b}(e:b5.mem b=cP.mem b){val tid buf}{v:Nat->cB} :
  LT cP (ab k) (qn.bF b val tid buf λc σ=>.ret (σ.put k<|v c)) (pT.bF b val tid buf λc σ=>.ret (σ.put k<|v c)):=by
 have f:qn.mem b=pT.mem b:=by
  rw[R.m b];cases h:qn.mem b with
  | some x=>rfl
  | none=>rw[<-e,R.nv b h]
 unfold St.bF;rw[<-f];cases qn.mem b with
 | none=>exact LT.Xz (R.trans<|Rel.cg R.le)
 | some g =>
   simp only;cases g.lk with
   | true=>exact LT.fail
   | false=>exact LT.Xz (R.trans<|Rel.cg R.le)
def R5(b:Le b5 cP)(c:∀k,d=ab k->b5.mem (nb+k)=cP.mem (nb+k)){e args}:LT cP d (mZ nb e d args b5) (mZ nb e d args cP):=by
 unfold mZ;split
 .split
  .rename_i l qn f;obtain⟨pT,g,h⟩:=C2 b f;rw[g];exact LT.bif (LT.jG<|LT.ZO h<|c _ rfl)
  .exact LT.fail
 .exact LT.fail
def abd{qn pT}(h:Le qn pT){e v r}(c:zY e qn v=ab r):zY e pT v=ab r:=by
 cases v with
 | part b aU lo n =>
   simp only[zY] at c⊢;cases f:qn.mem b with
   | none=>rw[f] at c;cases c
   | some g=>rw[f] at c;rw[h b g f];exact c
 | whole b aU =>
   simp only[zY] at c⊢;cases f:qn.mem b with
   | none=>rw[f] at c;cases c
   | some g=>rw[f] at c;rw[h b g f];exact c
 | _=>cases c
def XB(f:Le b5 cP){e A res spec args}:LT cP d (tF e A res spec d args b5) (tF e A res spec d args cP):=by
 unfold tF;split
 .split
  .rename_i x qn h;obtain⟨pT,i,c⟩:=EE f h;rw[i];simp only;split
   .rename_i b j m l g;rw[abd c.le g];refine LT.look λn=>?_;cases res with
    | true =>
      cases d with
      | none=>exact LT.fail
      | some k=>exact LT.Xz (c.trans<|Rel.cg c.le)
    | false=>cases d<;>exact LT.bif (LT.ret<|c.trans<|Rel.cg c.le)
   .exact LT.fail
  .exact LT.fail
 .exact LT.fail
def XC(b:Le b5 cP)(h:∀k,d=ab k->b5.mem (nb+k)=cP.mem (nb+k)){f args}(c:yB cx bf d f=ah->find cx.con f≠ah\/(find cx.con f=ah/\∃e,find cx.TL f=ab (.clone e)))(i:∀s,yB cx bf d f=ab s->(∃e,s=.clone e)\/∃e A r q,s=.own e A r q) :
  LT cP d (vN cx nb bf BQ d f args b5) (vN cx nb bf inl d f args cP):=by
 unfold vN;split
 .exact R5 b h
 .exact XB b
 .rename_i m n;have j:yB cx bf d f=none:=by
   cases o:yB cx bf d f with
   | none=>rfl
   | some s =>
     simp_all
  rcases c j with g|⟨g,e,l⟩
  .exact abc b g
  .unfold yC;rw[g,l];exact LT.fail
def UH{s f}(h:yB cx bf d f=ab s):(∃e,s=.clone e)\/∃e A r q,s=.own e A r q:=by
 unfold yB at h
 grind
def abe:∀{ps k},(∀x∈ps.map (·.2),dw b5 x=dw cP x)->BO b5 k ps=BO cP k ps:=by
 intro ps;induction ps with
 | nil=>intro k _;rfl
 | cons p r b =>
   simp only[BO]
   grind
def UI{fs}:∀{ps v},(∀x∈ps.map (·.2),dw b5 x=dw cP x)->rD b5 fs v ps=rD cP fs v ps:=by
 intro ps;induction ps with
 | nil=>intro v _;rfl
 | cons p r b =>
   intro v h;simp only[rD];simp_all
def abf(C:Le b5 cP){o:Oper}{ge:Option Nat}(hge:rH o cP=ge)(I:cls cx ge o≠3)(j:∀x∈iE o.op,dw b5 x=dw cP x)(F:∀k,o.dst=ab k->b5.mem (nb+k)=cP.mem (nb+k)) :
  LT cP o.dst (rF cx nb bf BQ o b5) (rF cx nb bf inl o cP):=by
 have R:=Rel.refl C;unfold rF;cases D:o.op with
 | move x=>simp only[D,iE] at j⊢;rw[j x bb];exact DO C F
 | assign x=>simp only[D,iE] at j⊢;rw[j x bb];exact DO C F
 | pick c a b=>simp only[D,iE] at j⊢;rw[j c bb,j a bb,j b bb];exact UF C
 | alloc e =>
   simp only;split
   .rename_i k t E hT;rw[E];unfold wC;split
    .exact absurd (by simp[cls,D,hT]) I
    .exact LT.bF C (F k E)
   .rename_i k E hT;rw[E];split
    .rename_i V;exact absurd (by simp[cls,D,hT,V]) I
    .exact LT.bif (LT.bF C<|F k E)
   .exact LT.fail
 | box e x =>
   simp only[D,iE] at j⊢;rw[j x bb];cases E:o.dst with
   | none=>exact LT.fail
   | some k =>
     have V:find cx.sG e=none:=by
      cases V:find cx.sG e with
      | none=>rfl
      | some fs=>exact absurd (by simp[cls,D,V]) I
     cases dw cP x<;>simp only[Fy,V]<;>first|exact LT.fail|exact LT.bF C (F k E)
 | build t ps =>
   simp only[D] at j⊢;split
   .split
    .rename_i L;obtain⟨pT,M,K⟩:=OT C j L;rw[M];exact LT.ret K
    .exact LT.fail
   .split
    .rename_i L;obtain⟨pT,M,K⟩:=F6 C j L;rw[M];exact LT.ret K
    .exact LT.fail
   .split
    .split
     .rw[UI j];split
      .exact LT.ret R
      .exact LT.ret R
      .exact LT.fail
     .exact LT.fail
    .exact LT.fail
   .exact LT.fail
 | buildSlice t n ps =>
   simp only[D] at j⊢;split
   .split
    .rename_i k W Z;have E:=(EC W).1;rw[E];exact LT.bF C (F k E)
    .refine LT.bif ?_;split
     .rename_i L;obtain⟨pT,M,K⟩:=F6 C j L;rw[M];split
      .rename_i k E;rw[xX E];exact LT.ZO K (F k<|xX E)
      .exact LT.ret K
     .exact LT.fail
   .unfold CV;rw[abe j];split
    .rename_i k e v E _ _;rw[E];exact LT.bif (LT.bF C<|F _ E)
    .exact LT.fail
   .exact LT.fail
 | load t a=>simp only[D,iE] at j⊢;rw[j a bb];exact UG C
 | store t a x =>
   simp only[D,iE] at j⊢;rw[j a bb,j x bb];cases E:o.dst with
   | none=>exact RZ C
   | some k=>exact LT.fail
 | nilCheck x =>
   simp only[D,iE] at j⊢;rw[j x bb];cases dw cP x with
   | ptr b aU p=>exact LT.UE (rQ C) (LT.ret R)
   | cell t x=>exact LT.ret R
   | fn f c=>exact LT.ret R
   | _=>exact LT.fail
 | binOp op xt x y yt =>
   simp only[D,iE] at j⊢;rw[j x bb,j y bb];intro z hz;obtain⟨v,X,h2⟩:=bind_some hz;have F:(adL cP (find cx.T xt) (dA cx.zc xt) op (dw cP x)<|dw cP y).run=ab v:=by
    unfold adL at X⊢;split at X
    .obtain⟨G,I⟩:=aI X;simp only[gy] at G;rw[rQ C G.1,G.2];exact I
    .obtain⟨G,I⟩:=aI X;simp at G;rw[rQ C G.1,G.2];exact I
    .exact X
   rw[Tree.run_bind,F];exact LT.ret R z h2
 | unOp op t x=>simp only[D,iE] at j⊢;rw[j x bb];exact LT.bind λ_ _=>LT.ret R
 | convert s t x=>simp only[D,iE] at j⊢;rw[j x bb];exact Mk C F
 | makeFunc fn first H =>
   simp only[D] at j⊢;cases fn with
   | func f =>
     simp only;have:H.toList.map _=H.toList.map (dw cP):=W0 λx hx=>j x (Lc _ hx);rw[this];split
     .exact LT.ret R
     .exact LT.fail
   | _=>exact LT.fail
 | slice t x lo hi m =>
   simp only[D,iE] at j⊢;cases m with
   | some m=>exact LT.fail
   | none =>
     simp only;rw[j x bb];exact R0 C λy hy=>j y (va _ hy)
 | fieldAddr s x k=>simp only[D,iE] at j⊢;rw[j x bb];exact HC C
 | field xt x k =>
   simp only[D,iE] at j⊢;rw[j x bb];split
   .refine LT.bif ?_;split
    .exact LT.ret R
    .exact LT.fail
   .exact LT.fail
 | indexAddr t x i =>
   simp only[D,iE] at j⊢;rw[j x bb,j i bb];split
   .cases dA bf 5000000 with
    | true=>exact R1 C
    | false=>exact zp C
   .exact LT.fail
 | index t x i =>
   simp only[D,iE] at j⊢;rw[j x bb,j i bb];split
   .exact R4 C
   .exact LT.fail
 | makeSlice t l c =>
   simp only[D,iE] at j⊢;rw[j l bb,j c bb];cases E:o.dst with
   | none=>exact LT.fail
   | some k =>
     split
     .rename_i k' _ _ _ _ _ hk' _ _ _;obtain rfl:=aQ hk';exact LT.jG (LT.jG<|LT.bF C<|F k E)
     .exact LT.fail
 | extract t k =>
   simp only[D,iE] at j⊢;rw[j t bb];split
   ·((try dsimp only);split<;>first|exact LT.fail|skip)
    exact LT.ret R
   .exact LT.fail
 | call c =>
   simp only[D,iE] at j⊢;have S:c.args.toList.map _=c.args.toList.map (dw cP):=W0 λx hx=>j x (Lc _ hx);unfold wL;rw[S];cases G:c.callee with
   | builtin b =>
     simp only;split
     .rename_i x t _ _;cases ZG _ x with
      | true =>
        ((try dsimp only);split<;>first|exact LT.fail|(rename_i hq;rw[((λr (hr:_=ab r)=>aef C hr)) _ hq];try dsimp only))
        exact LT.ret R
      | false =>
        simp;split
        .refine LT.UE (λh=>?_) (LT.ret R);simp at h⊢;exact⟨rQ C h.1,h.2⟩
        .exact LT.fail
     .split
      .exact DP C F
      .exact DP C F
      .exact LT.fail
     .exact absurd (by simp[cls,D,G]) I
     .exact absurd (by simp[cls,D,G]) I
     .exact LT.bind λ_ _=>LT.ret R
     .exact LT.bind λ_ _=>LT.ret R
     .exact LT.fail
   | value f =>
     simp only;rw[j f<|by rw[G];simp];split
     .rename_i g H j;have U:(H.all λb=>live b5 b.1 b.2)=true->_=true:=λh=>by
       rw[vL] at h⊢;exact λb hm=>rQ C (h b hm)
      refine LT.UE U (XC C F (λhq=>?_) λs hs=>UH hs);have Y:ge=ab g:=by rw[<-hge];simp[rH,D,G,j]
      cases O:find cx.con g with
      | some c=>exact .inl bb
      | none =>
        refine .inr ⟨rfl,?_⟩;cases J:find cx.TL g with
        | none=>exact absurd (by simp[cls,D,G,Y,O,J]) I
        | some s =>
          cases s with
          | clone e=>exact⟨e,rfl⟩
          | own e A r q=>simp[yB,J] at hq
          | _=>exact absurd (by simp[cls,D,G,Y,O,J]) I
     .exact LT.fail
   | invoke r m =>
     simp only;rw[j r<|by rw[G];simp];unfold s6;split
     .split
      .rename_i L;obtain⟨pT,M,K⟩:=EE C L;rw[M];exact LT.look λ_=>LT.ret K
      .exact LT.fail
     .exact LT.fail
 | makeInterface u x =>
   simp only[D,iE] at j⊢;rw[j x bb];unfold sZ;split
   .split
    .split
     .rename_i L;obtain⟨pT,M,K⟩:=C2 C L;rw[M];exact LT.ret K
     .exact LT.fail
    .exact LT.fail
   .exact LT.fail
 | _=>exact LT.fail
end
end Go.Ge
namespace Go.Ge
open RowKit
def pU{l t}:dA l t=true↔t∈l:=by
 induction l with
 | nil=>simp[dA]
 | cons i r b =>
   simp only[dA,Fs,lW,b];constructor
   .rintro(h|h)
    .exact .inl (iT h)
    .exact .inr h
   .rintro(h|h)
    .subst h;exact .inl bb
    .exact .inr h
def kp{l t}:dA l t=false↔t∉l:=by
 rw[<-pU];simp
def XD{l}{t:Nat}(h:Operand.tmp t∈l):t∈tmpsOf l:=by
 induction l with
 | nil=>cases h
 | cons x r c =>
   rcases lW.1 h with b|b
   .subst b;exact pI ..
   .clear h;have h:=b;cases x<;>simp only[tmpsOf]
    case tmp k=>exact va _ (c h)
    all_goals exact c h
section
variable {cx:Ctx} {nb:Nat} {bf:List Nat} {inl:Nat->List cB->St->Tree (cB×St)} {σ aY τ:St}
structure UJ (cx:Ctx) (nb:Nat) (o:Oper) (fp:Fp):Prop where
 own:∀k,o.dst=ab k->nb+k∈fp.rd
 sub:∀b∈fp.wr,b∈fp.rd
 w1:cls cx fp.fn o≠0->∀k,o.dst=ab k->nb+k∈fp.wr
 w2:cls cx fp.fn o≠0->cls cx fp.fn o≠1->∀b∈fp.rd,b∈fp.wr
 c3:cls cx fp.fn o≠3
def KM o σ (h:(BP cx nb o σ).KF=false):UJ cx nb o (BP cx nb o σ):=by
 have c:∀k,o.dst=ab k->nb+k∈Go.Ge.own nb o:=λk e=>by simp[Go.Ge.own,e]
 unfold BP at h⊢;dsimp only at h⊢;split at h<;>rename_i g
 .exact⟨λk e=>En _ (c k e),λb f=>(nomatch f),λi=>absurd g i,λi=>absurd g i,by rw[g];decide⟩
 .exact⟨λk e=>En _ (c k e),λb f=>En _ f,λ_ k e=>c k e,λ_ j=>absurd g j,by rw[g];decide⟩
 .exact⟨λk e=>En _ (c k e),λb f=>f,λ_ k e=>En _ (c k e),λ_ _ b f=>f,by rw[g];decide⟩
 .cases h
def agR{ts rd}:Le { (σ.only ts rd) with br:=σ.br } σ:=λb f c=>by
 simp only[St.only] at c;cases e:dA rd b with
 | true=>rw[e] at c;exact c
 | false=>rw[e] at c;cases c
def UK{ts rd}:Le (σ.only ts rd) σ:=λb c e=>agR (ts:=ts) b c e
def UL{l rd x}(b:x∈l):dw (σ.only (tmpsOf l) rd) x=dw σ x:=by
 cases x with
 | tmp t =>
   have:=pU.2 (XD b);simp only[dw,St.only,this,zS]
 | _=>rfl
def agS{a b}(h:aj3 a b=true):a=b:=by
 cases a<;>cases b<;>first|rfl|cases h|exact congrArg ab (iT h)
def OU o rd:rH o (σ.only (tmpsOf<|iE o.op) rd)=rH o σ:=by
 unfold rH;split
 .rename_i c b;split
  .rename_i x e;rw[UL<|by rw[b];simp[iE,e]]
  .rfl
 .rfl
def C3{fp o}(f:fp.KF=false->UJ cx nb o fp)(i:(jt cx nb bf inl fp o σ).run=ab aY):(rF cx nb bf inl o σ).run=ab aY:=by
 unfold jt at i;cases c:fp.KF with
 | true=>rw[c] at i;exact i
 | false =>
   have f:=f c;rw[c] at i;obtain⟨τ,g,u⟩:=bind_some i;obtain rfl:=aQ u;obtain⟨e,g⟩:=aI g;have e:=agS e;have v:=abf (inl:=inl) UK (by rw[<-e];exact(OU ..).symm) f.c3 (λx y=>UL y)
    (λk n=>by simp only[St.only,pU.2 (f.own k n),zS]) τ g
   rw[v];have hC:=Xx e f.c3 (λq k n=>f.w1 q k n) (λq g b r=>by
    refine f.w2 q g b ?_;simp only[St.only] at r;cases j:dA fp.rd b with
    | true=>exact pU.1 j
    | false=>rw[j] at r;exact absurd rfl r) τ g
   have j:(λb=>match τ.mem b with|some x=>ab x|none=>σ.mem b)=λb=>bif dA fp.wr b then τ.mem b else σ.mem b:=by
    funext b;have s:b∈fp.rd->(σ.only (tmpsOf<|iE o.op) fp.rd).mem b=σ.mem b:=λh=>by simp only[St.only,pU.2 h,zS]
    cases t:dA fp.wr b with
    | true =>
      simp;cases l:τ.mem b with
      | some x=>rfl
      | none =>
        rw[<-s (f.sub b<|pU.1 t)];rcases hC b with k|k
        .rw[<-k,l]
        .exact absurd l k.1
    | false =>
      rcases hC b with k|k
      .rw[k];cases l:(σ.only _ fp.rd).mem b with
       | none=>rfl
       | some x=>exact(UK b x l).symm
      .exact absurd k.2 (kp.1 t)
   exact congrArg (λm=>ab _) j
def C4{a b}(h:aaT a b=true){x}(c:x∈a):x∉b:=by
 simp only[aaT,vL,zP] at h;exact kp.1 (h x c)
def apart_spec{x y f g}(h:apart x y f g=true):f.KF=false/\g.KF=false/\(∀b∈f.wr,b∉g.rd)/\(∀b∈g.wr,b∉f.rd) /\
  (∀d,x.dst=ab d->d∉tmpsOf (iE y.op))/\(∀d,y.dst=ab d->d∉tmpsOf (iE x.op))/\(∀d e,x.dst=ab d->y.dst=ab e->d≠e):=by
 simp only[apart,gy,zP] at h;obtain⟨⟨⟨⟨⟨l,m⟩,n⟩,o⟩,c⟩,j⟩:=h;refine⟨l,m,λb k=>C4 n k,λb k=>C4 o k,λd i=>?_,λd i=>?_,λd e i r=>?_⟩
 .rw[i] at c;simp at c;exact kp.1 c.1
 .rw[i] at j;simp at j;exact kp.1 j
 .rw[i,r] at c;intro q;subst q;simp at c
def F7{d wr ts rd}(f:∀k,d=ab k->k∉ts)(g:∀b∈wr,b∉rd):(lay σ d wr τ).only ts rd=σ.only ts rd:=by
 unfold St.only lay
 congr 1
 .funext t;cases c:dA ts t with
  | false=>rfl
  | true =>
    cases d with
    | none=>rfl
    | some k =>
      have:t≠k:=λe=>f k rfl (by rw[<-e];exact pU.1 c);simp[ko this]
 .funext b;cases c:dA rd b with
  | false=>rfl
  | true =>
    have:=λh=>g b h (pU.1 c);simp[kp.2 this]
def aeh{h g f i b5 cP}(j:apart h g f i=true)(l:∀b∈f.wr,b∈f.rd)(m:(jt cx nb bf inl f h σ).run=ab b5)(n:(jt cx nb bf inl i g b5).run=ab cP) :
  ∃c,(jt cx nb bf inl i g σ).run=ab c/\(jt cx nb bf inl f h c).run=ab cP:=by
 obtain⟨x,y,z,u,A,C,D⟩:=apart_spec j;unfold jt at m n⊢;simp only[x,y,Fu] at m n⊢;obtain⟨E,F,G⟩:=bind_some m;obtain rfl:=aQ G;obtain⟨o,v,H⟩:=bind_some n;obtain rfl:=aQ H;rw[F7 A z] at v;refine⟨lay σ g.dst i.wr o,by rw[Tree.run_bind,v];rfl,?_⟩;rw[F7 C u,Tree.run_bind,F];show ab _=ab _
 congr 1
 unfold lay
 congr 1
 .cases hi:h.dst with
  | none=>rfl
  | some k =>
    cases I:g.dst with
    | none=>rfl
    | some e =>
      have q:=D k e hi I;funext t;by_cases r:t=k
      .subst r;simp[ko q]
      .by_cases K:t=e
       .simp[ko r]
       .simp[ko r]
 .funext b;dsimp only;cases s:dA f.wr b with
  | false=>rfl
  | true =>
    have:=λJ=>u b J (l b<|pU.1 s);simp[kp.2 this]
inductive Reach (ops:Array Oper):Nat->Nat->Prop where
 | step {i:Nat} {o:Oper} {e:Edge} (h:ops[i]?=ab o) (he:e∈o.after) (hb:Region.binds .any e=true):Reach ops i e.on
 | more {i k:Nat} {o:Oper} {e:Edge} (h:ops[i]?=ab o) (he:e∈o.after) (hb:Region.binds .any e=true) (r:Reach ops e.on k):Reach ops i k
def R6(c:Array Oper)(b:Array Bool):Prop:=∀i o e,b.getD i false=true->c[i]?=ab o->e∈o.after->Region.binds .any e=true->b.getD e.on false=true
def Reach.listed{ops listed}(f:R6 ops listed){i k}(h:Reach ops i k):listed.getD i false=true->listed.getD k false=true:=by
 induction h with
 | step h b c=>exact λe=>f _ _ _ e h b c
 | more h b c r g=>exact λe=>g (f _ _ _ e h b c)
def Reach.ready{ops listed}(g:R6 ops listed){i k}(h:Reach ops i k)(j:i∈Region.ready .any ops listed):listed.getD k false=true:=by
 obtain⟨_,o,f,b⟩:=mem_ready.1 j;cases h with
 | step h c e =>
   obtain rfl:=aQ (f.symm.trans h);exact b _ c e
 | more h c e r =>
   obtain rfl:=aQ (f.symm.trans h);exact r.listed g (b _ c e)
def R6.list{ops listed}(r:R6 ops listed){i}(s:i∈Region.ready .any ops listed):R6 ops (listed.setIfInBounds i true):=by
 obtain⟨_,t,c,b⟩:=mem_ready.1 s;have up:∀k,listed.getD k false=true->(listed.setIfInBounds i true).getD k false=true:=by
  intro k g;by_cases e:i=k
  .subst e;rcases vM i listed.size with f|f
   .simp[f]
   .simp[TS f] at g
  .rw[getD_set_ne false e];exact g
 intro j o e h l m n;by_cases q:i=j
 .subst q;obtain rfl:=aQ (c.symm.trans l);exact up _ (b e m n)
 .rw[getD_set_ne false q] at h;exact up _ (r j o e h l m n)
def UM{b:Array Bool}{i}(f:b.getD i true=false)(c:b.getD i false=true):False:=by
 rcases vM i b.size with e|e
 .simp[e] at f c;rw[f] at c;cases c
 .simp[TS e] at c
def tK(e:Array Oper)(c:List Uc):Prop:=∀k,∀b,Nat.testBit (maskAt c k) b=true->Reach e k b
def EF{ops done}(n:tK ops done){i o}(k:ops[i]?=ab o){b}(h:Nat.testBit (mask done o) b=true):Reach ops i b:=by
 have key:∀l,(∀e∈l,e∈o.after)->Nat.testBit (wD done l) b=true->Reach ops i b:=by
  intro l;induction l with
  | nil=>intro _ h;simp[wD] at h
  | cons e r m =>
    intro f h;simp only[wD] at h;cases g:Region.binds .any e with
    | false=>rw[g] at h;exact m (λj c=>f j (va _ c)) h
    | true =>
      rw[g] at h;simp at h;rcases h with (h|h)|h
      .exact m (λj c=>f j (va _ c)) h
      .rw[Nat.testBit_two_pow] at h;have:e.on=b:=by simpa using h
       subst this;exact .step k (f e<|pI ..) g
      .exact .more k (f e<|pI ..) g (n _ _ h)
 exact key _ (λe q=>by simpa using q) h
def tK.nil{ops}:tK ops []:=λk b h=>by simp[maskAt] at h
def tK.cons{ops done}(e:tK ops done){i o f}(g:ops[i]?=ab o):tK ops ((i,o,f,mask done o)::done):=by
 intro k b h;simp only[maskAt] at h;cases c:Nat.beq i k with
 | true =>
   rw[c] at h;obtain rfl:=iT c;exact EF e g h
 | false=>rw[c] at h;exact e k b h
def aei(c:Ctx)(e:Nat)(f:List Nat)(inl:Nat->List cB->St->Tree (cB×St))(b:Array Oper)(g:Nat->Fp)(Q:St->Prop):Nat->Array Bool->St->Prop
 | 0,listed,σ=>Region.ready .any b listed=[]/\Q σ
 | n+1,listed,σ=>(Region.ready .any b listed=[]->Q σ) /\
  ∀i∈Region.ready .any b listed,∃o aY,b[i]?=ab o/\o.guard=ah/\(jt c e f inl (g i) o σ).run=ab aY/\aei c e f inl b g Q n (listed.setIfInBounds i true) aY
variable {ops:Array Oper} {fp:Nat->Fp} {Q:St->Prop}
def XE{i o}(E:ops[i]?=ab o)(u:o.guard=ah)(v:∀b∈(fp i).wr,b∈(fp i).rd):∀n c σ b5,
  R6 ops c->(∀j s,ops[j]?=ab s->j≠i->c.getD j true=false->Reach ops j i\/apart o s (fp i) (fp j)=true) ->
  i∈Region.ready .any ops c->(jt cx nb bf inl (fp i) o σ).run=ab b5->aei cx nb bf inl ops fp Q n (c.setIfInBounds i true) b5->aei cx nb bf inl ops fp Q (n+1) c σ:=by
 intro n;induction n with
 | zero =>
   intro c σ b5 f g q A H;refine⟨λh=>(by rw[h] at q;cases q),λj t=>?_⟩;by_cases e:j=i
   .subst e;exact⟨o,b5,E,u,A,H⟩
   .have:=ready_mono t e;rw[H.1] at this;cases this
 | succ n I =>
   intro c σ b5 f g q A H;refine⟨λh=>(by rw[h] at q;cases q),λj t=>?_⟩;by_cases e:j=i
   .subst e;exact⟨o,b5,E,u,A,H⟩
   .obtain⟨s,cP,x,C,J,K⟩:=H.2 j (ready_mono t e);obtain⟨l,L,F,G⟩:=mem_ready.1 t;have r:apart o s (fp i) (fp j)=true:=by
     rcases g j s x e l with M|r
     .exact(UM (mem_ready.1 q).1<|M.ready f t).elim
     .exact r
    obtain⟨m,O,R⟩:=aeh r v A J;refine⟨s,m,x,C,O,I _ m cP (f.list t) (λk S T D y=>g k S T D ?_) (ready_mono q<|Lo e) R ?_⟩
    .by_cases z:j=k
     .subst z;exact l
     .rw[getD_set_ne true z] at y;exact y
    .rw[aib _ _ e];exact K
end
end Go.Ge
namespace Go.Ge
open RowKit
section
variable {P:Program} {B:BA} {N:Nat} {γ:Gh} {cx:Ctx} {nb:Nat} {bf:List Nat} {inl:Nat->List cB->St->Tree (cB×St)} {σ aY τ:St} {ops:Array Oper} {fp:Nat->Fp}
def agT(f:Ctx)(g:Nat)(h:List Nat)(inl:Nat->List cB->St->Tree (cB×St))(c:Array Oper)(b:Nat->Fp):Nat->List Oper->St->St->Prop
 | _,[],σ,aY=>σ=aY
 | k,o::l,σ,aY=>o.guard=ah/\((b k).KF=false->UJ f g o (b k))/\((b k).KF=true->(b k).wr=[])/\(∀e∈o.after,Region.binds .any e=true->e.on<k) /\
  (∀j i,l[j]?=ab i->Reach c (k+1+j) k\/apart o i (b k) (b<|k+1+j)=true) /\
  ∃b5,(jt f g h inl (b k) o σ).run=ab b5/\agT f g h inl c b (k+1) l b5 aY
def Ml{o f b k m mk ok r}(h:loose o f m ((k,ok,b,mk)::r)=true):(Nat.testBit m k=true\/apart ok o b f=true)/\loose o f m r=true:=by
 simp only[loose,gy,Fs] at h;exact h
def aej o σ (h:(BP cx nb o σ).KF=true):(BP cx nb o σ).wr=[]:=by
 unfold BP at h⊢;dsimp only at h⊢;split at h<;>first|cases h|skip
 rfl
def R7:∀l k c σ,(∀j o,l[j]?=ab o->ops[k+j]?=ab o)->tK ops c->(Lw cx nb bf inl (number k l) c σ).run=ab aY ->
  ∃n:List (Fp×Nat),n.length=l.length/\(∀j m b,n[j]?=ab m->Nat.testBit m.2 b=true->Reach ops (k+j) b) /\
   ∀fp,(∀j f,n[j]?=ab f->fp (k+j)=f.1)->agT cx nb bf inl ops fp k l σ aY/\∀j o f,l[j]?=ab o->n[j]?=ab f->loose o (fp<|k+j) f.2 c=true:=by
 intro l;induction l with
 | nil =>
   intro k c σ _ _ h;exact⟨[],rfl,λj m b h=>absurd h bb,λfp _=>⟨aQ h,λj o f g=>absurd g bb⟩⟩
 | cons o l E =>
   intro k c σ x y h;simp only[number,Lw] at h;split at h
   .cases h
   .rename_i F;obtain⟨u,G⟩:=aI h;obtain⟨b5,H,I⟩:=bind_some G;simp only[gy] at u;have z:=x 0 o rfl;obtain⟨n,A,C,J⟩:=E _ _ b5 (λj v g=>by have:=x (j+1) v (by simpa using g);rw[<-this];congr 1;omega) (y.cons z) I;refine⟨(BP cx nb o σ,mask c o)::n,by simp[A],λj m b g i=>?_,λfp r=>?_⟩
    .cases j with
     | zero=>obtain rfl:=aQ g;exact EF y z i
     | succ j=>have:=C j m b (by simpa using g) i;rw[show k+_=k+1+j by omega];exact this
    have s:fp k=BP cx nb o σ:=r 0 _ rfl;obtain⟨K,D⟩:=J fp λj f g=>by have:=r (j+1) f (by simpa using g);rw[<-this];congr 1;omega
    refine⟨⟨F,λi=>by rw[s] at i⊢;exact KM o σ i,λi=>by rw[s] at i⊢;exact aej o σ i,λe L i=>?_,λj M g=>?_,b5,by rw[s];exact H,K⟩,λj v f g t=>?_⟩
    .have:=u.2;rw[<-Array.all_toList,vL] at this;have:=this e (by simpa using L);rw[i] at this;have:=JH (by simpa [Nat.blt] using this);omega
    .obtain⟨f,t⟩:∃f,n[j]?=ab f:=⟨_,ik (by rw[A];exact(hR.1 g).1)⟩;rcases(Ml<|D j M f g t).1 with q|q
     .exact .inl (C j f k t q)
     .rw[s];exact .inr q
    .cases j with
     | zero =>
       obtain rfl:=aQ g;obtain rfl:=aQ t;rw[Fv,s];exact u.1
     | succ j =>
       have:=(Ml<|D j v f (by simpa using g)<|by simpa using t).2;rw[show k+_=k+1+j by omega];exact this
def aek:∀l k c σ,(∀j,l[j]?=ops[k+j]?)->c.size=ops.size->(∀j,j<k->j<ops.size->c.getD j false=true) ->
  (∀j,k<=j->j<ops.size->c.getD j true=false)->R6 ops c->agT cx nb bf inl ops fp k l σ aY->aei cx nb bf inl ops fp (·=aY) l.length c σ:=by
 intro l;induction l with
 | nil =>
   intro k c σ x y z E f h;refine⟨?_,h⟩;cases J:Region.ready .any ops c with
   | nil=>rfl
   | cons i r =>
     obtain⟨F,o,I,_⟩:=mem_ready.1 (by rw[J];exact pI ..);have n:=(y7.1 I).1;rcases vM i k with v|v
     .have:=z i v n;simp[y,n] at this F;rw[this] at F;cases F
     .have:=x (i-k);rw[show k+_=i by omega,I] at this;cases this
 | cons o l K =>
   intro k c σ x y z E f h;have v:ops[k]?=ab o:=by simpa using(x 0).symm
   have n:=(y7.1 v).1;obtain⟨L,M,G,O,R,b5,S,T⟩:=h;have g:=mem_ready.2 ⟨E k (cp _) n,o,v,λe U A=>by
    have:=O e U A;exact z e.on this ai⟩
   refine XE v L (λb A=>?_) l.length c σ b5 f (λj V D W t=>?_) g S (K _ _ b5 (λj=>?_) (by simp[y]) (λj D u=>?_) (λj D u=>?_) (f.list g) T)
   .cases q:(fp k).KF with
    | true=>rw[G q] at A;cases A
    | false=>exact(M q).sub b A
   .have s:=(y7.1 D).1;rcases vM j k with C|C
    .exfalso;have:=z j C s;simp[y,s] at this t;rw[this] at t;cases t
    .have H:=x (j-k);rw[show k+_=j by omega,D] at H;obtain⟨m,X⟩:∃m,j-k=m+1:=⟨j-k-1,ai⟩;rw[X] at H;have:=R m V (by simpa using H);rw[show k+1+m=j by omega] at this;exact this
   .have:=x (j+1);rw[show k+1+j=k+(j+1) by omega,<-this];simp
   .by_cases e:j=k
    .subst e;simp[y,n]
    .rw[getD_set_ne false<|Lo e];exact z j ai u
   .rw[getD_set_ne true (by omega:k≠j)];exact E j ai u
def Mm:∀{l k j o},l[j]?=ab o->(k+j,o)∈number k l:=by
 intro l;induction l with
 | nil=>intro k j o h;cases h
 | cons p l b =>
   intro k j o h;cases j with
   | zero=>obtain rfl:=aQ h;exact pI ..
   | succ j=>exact va _ (by rw[show k+(j+1)=k+1+j by omega];exact b (by simpa using h))
def Mn{d}:∀{items},oH d items=false->∀{i o},(i,o)∈items->o.dst≠ab d:=λh _ _ b=>Xq h _ _ b
def OV(z:fS P cx)(f:qX P B.G cx)(g:xV P B.G inl){Q}(r:∀i o,ops[i]?=ab o->(fp i).KF=false->UJ cx nb o (fp i))
  (A:∀o∈ops.toList,∀k,o.dst=ab k->k<N):∀n b σ γ a w,aei cx nb bf inl ops fp (·=aY) n b σ->dJ B N γ σ a w ->
   (∀bJ s w',dJ B N bJ aY s w'->Ext B γ σ.mem w bJ aY.mem w'->Fr (number 0 ops.toList) a s->Q .normal s w')->wpAny P .any ops Q n b a w:=by
 intro n;induction n with
 | zero =>
   intro b σ γ a w h m q;obtain⟨e,rfl⟩:=h;exact⟨e,q γ a w m (Ext.refl _ _ _ _) λt _=>rfl⟩
 | succ n C =>
   intro b σ γ a w h m q;refine⟨λD=>?_,λi E=>?_⟩
   .obtain rfl:=h.1 D;exact q γ a w m (Ext.refl _ _ _ _) λt _=>rfl
   .obtain⟨o,b5,e,F,H,I⟩:=h.2 i E;have j:o∈ops.toList:=by
     have:=adh e;simpa using this
    have c:(i,o)∈number 0 ops.toList:=by
     have:=Mm (l:=ops.toList) (k:=0) (by simpa using e);simpa using this
    unfold wpOp;rw[e];dsimp only;have J:Region.wanted o (yielded ops a.tmps)=true:=by unfold Region.wanted;rw[F]
    rw[J];refine .inl (L7 z f g m (A o j) (C3 (r i o e) H) λu v K L M=>?_);refine C _ b5 u _ K I L λx O R S T U=>q x O R S (M.trans T) λt y=>?_;rw[U t y,gq (Mn y c)]
def dJ.draw{a w}(h:dJ B N γ σ a w) n:dJ B N γ σ a { w with drawn:=n }/\Ext B γ σ.mem w γ σ.mem { w with drawn:=n }:=by
 obtain⟨m1,c⟩:=h.ok.far (w':={ w with drawn:=n }) (I':=γ.I) ⟨rfl,rfl,rfl,cp _,λ_ _=>rfl⟩ (λ_ _ k=>k) (λb o k=>h.ok.vz b o k) (λb o k e=>absurd k e);exact⟨h.go c m1,c⟩
def R8(c:P.follows .mixedOrders=true)(u:fS P cx)(g:qX P B.G cx)(m:xV P B.G inl){Q id a w}
  (v:∀o∈ops.toList,∀k,o.dst=ab k->k<N) (y:(Lw cx nb bf inl (number 0 ops.toList) [] σ).run=ab aY) (h:dJ B N γ σ a w)
  (z:∀bJ n w',dJ B N bJ aY n w'->Ext B γ σ.mem w bJ aY.mem w'->Fr (number 0 ops.toList) a n->Q .normal n w'):(Code.region id ops true).wp P Q a w:=by
 refine wp_region_any c ?_;obtain⟨A,M,O,C⟩:=R7 ops.toList 0 [] σ (λj o b=>by simpa using b) tK.nil y
 let fp:Nat->Fp:=λi=>(A[i]?.map (·.1)).getD ⟨[],[],true,ah⟩
 obtain⟨r,_⟩:=C fp λj f b=>by simp[fp,b]
 have key:∀l k σ,agT cx nb bf inl ops fp k l σ aY->∀j o,l[j]?=ab o->(fp<|k+j).KF=false->UJ cx nb o (fp<|k+j):=by
  intro l;induction l with
  | nil=>intro k σ _ j o b;cases b
  | cons o l D =>
    intro k σ E j F b;obtain⟨R,H,I,S,T,b5,U,J⟩:=E;cases j with
    | zero=>obtain rfl:=aQ b;exact H
    | succ j=>rw[show k+_=k+1+j by omega];exact D _ b5 J j F (by simpa using b)
 have hA:=aek (aY:=aY) ops.toList 0 (Array.replicate ops.size false) σ bb bb (λj b=>ai)
  (λj _ b=>by simp[b]) (λi o e q=>by
   rcases vM i ops.size with t|t<;>simp[t] at q) r
 obtain⟨K,L⟩:=h.draw _;refine OV u g m (λi o q=>by have:=key _ 0 σ r i o (by simpa using q);simpa using this) v _ _ σ γ a _ (by simpa using hA) K λbJ n w' s x f=>z bJ n w' s (L.trans x) f
end
end Go.Ge
namespace Go.Ge
open RowKit
section
variable {cx:Ctx} {nb:Nat} {bf:List Nat} {inl:Nat->List cB->St->Tree (cB×St)} {ops:Array Oper} {fp:Nat->Fp}
abbrev Gst:=St×(Nat->Bool)
def EG(b:Array Oper)(o:Oper)(s:Gst):Option Bool:=match o.guard with
 | none=>ab true
 | some (g,want)=>match(b[g]?).bind (·.dst) with
   | none=>ah
   | some dg=>bif s.2 g then ab false else match s.1.br dg with
     | .data .bool c=>ab ((show Bool from c)==want)
     | _=>ah
def pG(c:Ctx)(e:Nat)(g:List Nat)(inl:Nat->List cB->St->Tree (cB×St))(b:Array Oper)(f:Fp)(i:Nat)(o:Oper)(s:Gst):Option Gst:=match EG b o s with
 | none=>ah
 | some true=>(jt c e g inl f o s.1).run.map λσ=>(σ,s.2)
 | some false=>ab (s.1.bD o.dst .undef,kH i s.2)
def akp:St:={ br:=λ_=>.undef,mem:=λ_=>ah }
def UN σ d:σ.bD d .undef=lay σ d [] akp:=by
 cases d with
 | none=>rfl
 | some k=>rfl
def Qi{f i o s l}(m:f.KF=false)(h:pG cx nb bf inl ops f i o s=ab l):∃b e τ,EG ops o s=ab b/\l=(lay s.1 o.dst e τ,bif b then s.2 else kH i s.2)/\(∀x∈e,x∈f.wr) /\
  ∀c,EG ops o c=ab b->(b=true->c.1.only (tmpsOf<|iE o.op) f.rd=s.1.only (tmpsOf<|iE o.op) f.rd)->pG cx nb bf inl ops f i o c=ab (lay c.1 o.dst e τ,bif b then c.2 else kH i c.2):=by
 unfold pG at h;cases hd:EG ops o s with
 | none=>rw[hd] at h;cases h
 | some b =>
   rw[hd] at h;cases b with
   | true =>
     obtain⟨aY,g,rfl⟩:=Em.1 h;unfold jt at g;rw[m] at g;obtain⟨τ,n,q⟩:=bind_some g;obtain rfl:=aQ q;refine⟨true,f.wr,τ,rfl,rfl,λx j=>j,λc k r=>?_⟩;unfold pG;rw[k];simp only;unfold jt;rw[m];simp;rw[Tree.run_bind,r rfl,n];rfl
   | false =>
     obtain rfl:=aQ h;refine⟨false,[],akp,rfl,by rw[UN];rfl,λx j=>(nomatch j),λc k _=>?_⟩;unfold pG;rw[k];rw[UN];rfl
def UO{i j x y f g}(h:BR ops i j x y f g=true):f.KF=false/\g.KF=false/\(∀b∈f.wr,b∉g.rd)/\(∀b∈g.wr,b∉f.rd)/\zh x j=true/\zh y i=true /\
  (∀d,x.dst=ab d->d∉Et ops y)/\(∀d,y.dst=ab d->d∉Et ops x)/\(∀d e,x.dst=ab d->y.dst=ab e->d≠e):=by
 simp only[BR,gy,zP] at h;obtain⟨⟨⟨⟨⟨⟨⟨n,o⟩,r⟩,s⟩,t⟩,u⟩,c⟩,l⟩:=h;refine⟨n,o,λb m=>C4 r m,λb m=>C4 s m,t,u,λd k=>?_,λd k=>?_,λd e k v=>?_⟩
 .rw[k] at c;simp at c;exact kp.1 c.1
 .rw[k] at l;simp at l;exact kp.1 l
 .rw[k,v] at c;intro q;subst q;simp at c
def Mo{i o s d wr τ b}(f:zh o i=true)(n:∀k,d=ab k->k∉Et ops o):EG ops o (lay s.1 d wr τ,bif b then s.2 else kH i s.2)=EG ops o s:=by
 unfold EG;cases c:o.guard with
 | none=>rfl
 | some p =>
   obtain⟨g,m⟩:=p;dsimp only;cases h:(ops[g]?).bind _ with
   | none=>rfl
   | some dg =>
     dsimp only;have j:Nat.beq g i=false:=by
      unfold zh at f;rw[c] at f;simpa using f
     have q:(bif b then s.2 else kH i s.2) g=s.2 g:=by
      cases b with
      | true=>rfl
      | false=>simp only[Fu,kH,j,Lm]
     have r:(lay s.1 d wr τ).br dg=s.1.br dg:=by
      unfold lay;cases d with
      | none=>rfl
      | some k =>
        have l:dg≠k:=λe=>n k rfl (by
         unfold Et Qa;rw[c];dsimp only;rw[h];subst e;exact pI ..)
        simp[ko l]
     rw[q,r]
def ael σ {g h i j c f} (hd:∀d e,g=ab d->h=ab e->d≠e) (o:∀b∈i,b∉j):lay (lay σ h j f) g i c=lay (lay σ g i c) h j f:=by
 unfold lay
 congr 1
 .cases g with
  | none=>rfl
  | some k =>
    cases h with
    | none=>rfl
    | some e =>
      have l:=hd k e rfl rfl;funext t;by_cases m:t=k
      .subst m;simp[ko l]
      .by_cases q:t=e
       .simp[ko m]
       .simp[ko m]
 .funext b;dsimp only;cases n:dA i b with
  | false=>rfl
  | true =>
    have:=o b (pU.1 n);simp[kp.2 this]
def XF{i j g l c m s s1 s2}(n:BR ops i j g l c m=true)(q:∀b∈c.wr,b∈c.rd)(D:pG cx nb bf inl ops c i g s=ab s1)(E:pG cx nb bf inl ops m j l s1=ab s2) :
  ∃e,pG cx nb bf inl ops m j l s=ab e/\pG cx nb bf inl ops c i g e=ab s2:=by
 obtain⟨F,G,H,u,I,J,v,x,K⟩:=UO n;obtain⟨L,Y,M,O,R,y,S⟩:=Qi F D;subst R;obtain⟨T,Z,U,z,V,A,W⟩:=Qi G E;subst V;rw[Mo J v] at z;have C:∀{o k},k∉Et ops o->k∉tmpsOf _:=λh X=>h (Lc _ X);refine⟨_,(W s z λ_=>(F7 (λk r=>C (v k r)) λb f=>H b (y b f)).symm),?_⟩;rw[(S _ (by rw[Mo I x];exact O) λ_=>F7 (λk r=>C (x k r)) λb f=>u b (A b f))]
 congr 1
 refine Fw (ael s.1 K λb f t=>u b (A b t) (q b<|y b f)) ?_
 .dsimp only;cases L<;>cases T<;>first|rfl|skip
  simp;funext k;simp only[kH];cases Nat.beq k i<;>cases Nat.beq k j<;>rfl
def R9(c:Ctx)(e:Nat)(f:List Nat)(inl:Nat->List cB->St->Tree (cB×St))(b:Array Oper)(g:Nat->Fp)(Q:Gst->Prop):Nat->Array Bool->Gst->Prop
 | 0,listed,s=>Region.ready .any b listed=[]/\Q s
 | n+1,listed,s=>(Region.ready .any b listed=[]->Q s) /\
  ∀i∈Region.ready .any b listed,∃o h,b[i]?=ab o/\pG c e f inl b (g i) i o s=ab h/\R9 c e f inl b g Q n (listed.setIfInBounds i true) h
variable {Q:Gst->Prop}
def XG{i q}(E:ops[i]?=ab q)(v:∀b∈(fp i).wr,b∈(fp i).rd):∀n c s r,
  R6 ops c->(∀j t,ops[j]?=ab t->j≠i->c.getD j true=false->Reach ops j i\/BR ops i j q t (fp i) (fp j)=true) ->
  i∈Region.ready .any ops c->pG cx nb bf inl ops (fp i) i q s=ab r->R9 cx nb bf inl ops fp Q n (c.setIfInBounds i true) r->R9 cx nb bf inl ops fp Q (n+1) c s:=by
 intro n;induction n with
 | zero =>
   intro c s r f g m C H;refine⟨λh=>(by rw[h] at m;cases m),λj u=>?_⟩;by_cases e:j=i
   .subst e;exact⟨q,r,E,C,H⟩
   .have:=ready_mono u e;rw[H.1] at this;cases this
 | succ n I =>
   intro c s r f g m C H;refine⟨λh=>(by rw[h] at m;cases m),λj u=>?_⟩;by_cases e:j=i
   .subst e;exact⟨q,r,E,C,H⟩
   .obtain⟨t,J,x,K,L⟩:=H.2 j (ready_mono u e);obtain⟨l,M,F,G⟩:=mem_ready.1 u;have o:BR ops i j q t (fp i) (fp j)=true:=by
     rcases g j t x e l with O|o
     .exact(UM (mem_ready.1 m).1<|O.ready f u).elim
     .exact o
    obtain⟨y,R,S⟩:=XF o v C K;refine⟨t,y,x,R,I _ y J (f.list u) (λk T U D z=>g k T U D ?_) (ready_mono m<|Lo e) S ?_⟩
    .by_cases A:j=k
     .subst A;exact l
     .rw[getD_set_ne true A] at z;exact z
    .rw[aib _ _ e];exact L
end
end Go.Ge
