import Derived.Test.YtcebnmppipejfaaGreatDoorGeE
import Derived.Tactics
set_option linter.unusedVariables false
set_option linter.unusedSimpArgs false
set_option linter.unusedSectionVars false
set_option linter.defProp false
open Option renaming some->ab,none->ah
namespace Go.Ge
open RowKit
inductive sV (all:Array Oper) (G:List (Nat×Bool)):List (Nat×Oper)->List Oper->Prop
 | nil:sV all G [] []
 | cons {i:Nat} {o o':Oper} {r:List (Nat×Oper)} {l:List Oper}:all[i]?=ab o->(o'=o\/∃g,o.guard=ab g/\g∈G/\o'={ o with guard:=ah })->sV all G r l->sV all G ((i,o')::r) (o::l)
def sV.mono{all G b}(c:∀g∈G,g∈b){items l}(h:sV all G items l):sV all b items l:=by
 induction h with
 | nil=>exact .nil
 | cons e f _ i=>exact .cons e (f.imp id λ⟨g,j,k,m⟩=>⟨g,j,c g k,m⟩) i
def UO{all G j want}:∀{items l inner},sV all G items l ->
  ∃b e,l=b++e/\sV all ((j,want)::G) (under j want inner items).1 b/\sV all G (under j want inner items).2 e:=by
 intro items l inner h;induction h generalizing inner with
 | nil=>exact⟨[],[],rfl,.nil,.nil⟩
 | @cons i o k r l n m C x =>
   unfold under;cases f:Ae k.guard j want with
   | true =>
     obtain⟨b,e,q,s,t⟩:=x (inner:=i::inner);refine⟨o::b,e,by rw[q];rfl,.cons n (.inr ?_) s,t⟩;have D:k=o:=by
      rcases m with m|⟨g,y,z,u⟩
      .exact m
      .rw[u] at f;cases f
     subst D;unfold Ae at f;split at f
     .rename_i E A v;simp only[gw] at f;have F:=ja f.1;have H:A=want:=by simpa using f.2
      subst F;subst H;exact⟨(E,A),v,pL ..,rfl⟩
     .cases f
   | false =>
     have both:∀c,∃b e,o::l=b++e /\
       sV all ((j,want)::G) (bif c then((i,k)::(under j want (i::inner) r).1,(under j want (i::inner) r).2) else([],(i,k)::r)).1 b /\
       sV all G (bif c then((i,k)::(under j want (i::inner) r).1,(under j want (i::inner) r).2) else([],(i,k)::r)).2 e:=by
      intro c;cases c with
      | true =>
        obtain⟨b,e,q,s,t⟩:=x;exact⟨o::b,e,by rw[q];rfl,.cons n (m.imp id λ⟨g,y,z,u⟩=>⟨g,y,vi _ z,u⟩) s,t⟩
      | false=>exact⟨[],o::l,rfl,.nil,.cons n m C⟩
     apply both
def XE{d}:∀{items},oM d items=false->∀i o,(i,o)∈items->o.dst≠ab d:=by
 intro items;induction items with
 | nil=>intro _ i o h;cases h
 | cons p r c =>
   intro h i o b;simp only[oM,OM] at h;rcases ld.1 b with b|b
   .obtain⟨rfl,rfl⟩:=cg b;intro e;rw[e] at h;simp at h
   .exact c h.2 i o b
section
variable {P:Program} {B:BI} {N:Nat} {γ:Gh} {σ ba:St} {a:Act} {w w':World} {cx:Ctx} {nb:Nat} {bf:List Nat} {inl:Nat->List cA->St->Tree (cA×St)} {all:Array Oper}
def UP(c:Array Oper)(G:List (Nat×Bool))(a:Act)(b:List (Nat×Oper)):Prop :=
 ∀g∈G,∃e,(c[g.1]?).bind (·.dst)=ab e/\a.tmps[e]?=ab (.bool g.2)/\oM e b=false
def UP.wanted{G items}(h:UP all G a items){o g}(b:o.guard=ab g)(c:g∈G):Region.wanted o (yielded all a.tmps)=true:=by
 obtain⟨i,e,f,_⟩:=h g c;unfold Region.wanted;rw[b];simp only[yielded,e,ZN,f];simp
def Fr(b:List (Nat×Oper))(a c:Act):Prop:=∀t,oM t b=false->c.tmps[t]?=a.tmps[t]?
def gx{a:Act}{d:Option Nat}{v t}(h:d≠ab t):(a.put d v).tmps[t]?=a.tmps[t]?:=by
 cases d with
 | none=>rfl
 | some k =>
   have:k≠t:=λe=>h (by rw[e]);simp[Act.put,Array.getElem?_setIfInBounds_ne this]
def zx{d i o r}(h:oM d ((i,o)::r)=false):o.dst≠ab d/\oM d r=false:=by
 simp only[oM,OM] at h;refine⟨λe=>?_,h.2⟩;rw[e] at h;simp at h
def UQ t:∀b,(σ.undef b).br t=bif oM t b then .undef else σ.br t:=by
 intro b;induction b with
 | nil=>rfl
 | cons p r c =>
   obtain⟨i,o⟩:=p;simp only[St.undef,oM];cases hd:o.dst with
   | none=>exact c
   | some k =>
     simp only[St.bD,St.put];cases f:Nat.beq k t with
     | true=>obtain rfl:=ja f;simp
     | false =>
       have:Nat.beq t k=false:=kr (λe=>by subst e;simp at f);rw[this];exact c
def wM:∀b,(σ.undef b).mem=σ.mem:=by
 intro b;induction b with
 | nil=>rfl
 | cons p r c =>
   obtain⟨i,o⟩:=p;simp only[St.undef];cases o.dst<;>exact c
def dK.undef(h:dK B N γ σ a w){items b}(c:Fr items a b)(f:b.tmps.size=N)(g:b.defers=[]):dK B N γ (σ.undef items) b w where
 br:=λt=>by
  rw[UQ,wM];cases i:oM t items with
  | true=>exact⟨_,rfl⟩
  | false =>
    have:=c t i;have e:b.tmps.getD t Go.undef=a.tmps.getD t Go.undef:=by simp only[Xc,this]
    rw[e];exact h.br t
 size:=f
 defers:=g
 ok:=by rw[wM];exact h.ok
def F7{d:Option Nat}{k}(h:yielded all a.tmps k=ah):yielded all (a.put d Go.undef).tmps k=none:=by
 unfold yielded at h⊢;cases f:(all[k]?).bind _ with
 | none=>rfl
 | some b =>
   rw[f] at h;simp at h⊢;by_cases e:d=ab b
   .subst e;simp only[Act.put];rw[aiB];simp;by_cases c:b<a.tmps.size
    .rw[aW c];rfl
    .rw[aQ c]
   .rw[gx e];exact h
def F8{i o}(h:all[i]?=ab o):yielded all (a.put o.dst Go.undef).tmps i=none:=by
 unfold yielded;rw[h];simp;cases hd:o.dst with
 | none=>rfl
 | some d =>
   simp only[ZN,Act.put];rw[aiB];simp;by_cases b:d<a.tmps.size
   .rw[aW b];rfl
   .rw[aQ b]
def XF{G}{j E:Nat}{want c Q}(U:(all[j]?).bind (·.dst)=ab E)(F:c≠want) :
  ∀{items l inner a},sV all G items l->a.tmps[E]?=ab (.bool c)->oM E (under j want inner items).1=false->(∀k∈inner,yielded all a.tmps k=ah) ->
   ∃u x,l=u++x/\u.length=(under j want inner items).1.length/\∀e,(∀q,Fr (under j want inner items).1 a q->q.tmps.size=a.tmps.size->q.defers=a.defers->wpList P all Q e q w) ->
    wpList P all Q (u++e) a w:=by
 intro items l inner a h;induction h generalizing inner a with
 | nil=>intro _ _ _;exact⟨[],[],rfl,rfl,λe s=>s a (λt _=>rfl) rfl rfl⟩
 | @cons i o n r l V v h3 W =>
   intro S T y;have one:∀H,H.dst=o.dst->Region.wanted o (yielded all a.tmps)=false->(under j want inner ((i,n)::r)).1=(i,H)::(under j want (i::inner) r).1 ->
     ∃u x,o::l=u++x/\u.length=(under j want inner ((i,n)::r)).1.length/\∀e,(∀q,Fr (under j want inner ((i,n)::r)).1 a q->q.tmps.size=a.tmps.size->q.defers=a.defers->wpList P all Q e q w) ->
     wpList P all Q (u++e) a w:=by
    intro H z X A;rw[A] at T⊢;obtain⟨C,I⟩:=zx T;rw[z] at C;obtain⟨u,x,Y,Z,e3⟩:=W (a:=a.put o.dst Go.undef) (by rw[gx C];exact S) I (λk s=>by
     rcases ld.1 s with rfl|s
     .exact F8 V
     .exact F7 (y k s))
    refine⟨o::u,x,by rw[Y];rfl,by simp[Z],λe s=>?_⟩;show wpList P all Q (o::_) a w
    unfold wpList;rw[X];refine e3 e λq f1 f2 f3=>s q (λt ht=>?_) (f2.trans<|Ux _ _ _) (f3.trans<|put_defers _ _ _);obtain⟨D,J⟩:=zx ht;rw[z] at D;rw[f1 t J,gx D]
   cases m:Ae n.guard j want with
   | true =>
     have K:n=o:=by
      rcases v with v|⟨g,k1,k2,L⟩
      .exact v
      .rw[L] at m;cases m
     subst K;have f:n.guard=ab (j,want):=by
      unfold Ae at m;split at m
      .rename_i i' b' f;simp only[gw] at m;have h8:b'=want:=by simpa using m.2
       rw[f,(ja m.1),h8]
      .cases m
     refine one { n with guard:=ah } rfl ?_ (by simp only[under,m,z6]);unfold Region.wanted;rw[f];simp only[yielded,U,ZN,S];cases c<;>cases want<;>first|rfl|exact absurd rfl F
   | false =>
     cases f:n.guard with
     | none =>
       have A:(under j want inner ((i,n)::r)).1=[]:=by
        rw[f] at m;simp only[under,f,m,FA]
       rw[A];exact⟨[],o::l,rfl,rfl,λe s=>s a (λt _=>rfl) rfl rfl⟩
     | some g =>
       obtain⟨k,b⟩:=g;rw[f] at m;cases M:inner.any (Nat.beq k) with
       | true =>
         have K:n=o:=by
          rcases v with v|⟨g,k1,k2,L⟩
          .exact v
          .rw[L] at f;cases f
         subst K;refine one n rfl ?_ (by simp only[under,f,m,M,FA,z6]);obtain⟨k',O,R⟩:=Qn.1 M;obtain rfl:=ja R;unfold Region.wanted;rw[f];simp only[y k O];rfl
       | false =>
         have A:(under j want inner ((i,n)::r)).1=[]:=by simp only[under,f,m,M,FA]
         rw[A];exact⟨[],o::l,rfl,rfl,λe s=>s a (λt _=>rfl) rfl rfl⟩
end
end Go.Ge
namespace Go.Ge
open RowKit
section
variable {P:Program} {B:BI} {N:Nat} {γ:Gh} {σ ba:St} {a:Act} {w w':World} {cx:Ctx} {nb:Nat} {bf:List Nat} {inl:Nat->List cA->St->Tree (cA×St)} {all:Array Oper}
def Mw σ items:b8 σ (σ.undef items):=b8.aew (wM items)
def F9(h:∀f i σ v ba,(inl f i σ).run=ab (v,ba)->b8 σ ba):∀n b σ,bq σ (rL cx nb bf inl all n b σ):=by
 intro n;induction n with
 | zero=>intro b σ;exact bq.fail
 | succ n k =>
   intro b σ;cases b with
   | nil=>exact bq.ret (b8.refl _)
   | cons p r =>
     unfold rL;split
     .exact bq.bind λb6 l y g=>(Cc h b6 l).trans (k _ _ y g)
     .rename_i j e C;dsimp only;split
      .exact bq.fail
      .rename_i u z;split
       .rename_i c D E t m o;cases F:oM u (under j e [] _).1 with
        | true=>exact bq.fail
        | false =>
          split
          .exact bq.fail
          .cases A:KR cx (under j e [] _).1 with
           | true =>
             intro y g;obtain⟨cQ,l,q⟩:=bind_some g;refine b8.trans ?_ (k _ _ y q);refine(bq.node ?_ ?_) cQ l
             .refine bq.bind λτ s=>?_;split
              .exact bq.ret ((k _ _ τ s).trans<|b8.bD _ _ _)
              .exact bq.fail
             .split
              .exact bq.ret ((Mw _ _).trans<|b8.bD _ _ _)
              .exact bq.fail
           | false =>
             simp;split
             .intro y g;rw[Tree.BV] at g;obtain⟨x,l,q⟩:=DD.1 g;exact((Mw _ _).trans<|b8.put _ _ _).trans (k _ _ y q)
             .exact bq.fail
       .exact bq.fail
def Z2{mem t v x val}(h:toD t v=ab x)(b:cM γ mem w v .val [val]){cT}:cM γ cT w (.data t x) .val [val]:=by
 unfold toD at h;split at h
 .obtain⟨q,c⟩:=Ty.l5 h;subst q;subst c;exact b
 .split at h
  .obtain rfl:=aR h;obtain rfl:val=_:=by simpa [cM] using b
   exact⟨[.slice ah 0 0],.inl ⟨⟨ah,rfl⟩,rfl⟩,rfl⟩
  .cases h
 .cases h
def sV.length{G items l}(h:sV all G items l):items.length=l.length:=by
 induction h with
 | nil=>rfl
 | cons _ _ _ b=>simp[b]
def XG{g i b v K Q}(h:dK B N γ σ a w)(l:a.tmps[i]?=ab (.bool b)){want}(m:b=want)
  (e:Af σ g i want=ab v) (n:∀y,cM γ σ.mem w v .val [y]->K (a.put g.dst y) w):g.wp P a w K Q:=by
 unfold Af at e;split at e
 .rename_i c x y j;cases k:Nat.beq c i with
  | false=>rw[k] at e;cases e
  | true =>
    obtain rfl:=ja k;rw[k] at e;obtain rfl:=aR e;subst m;have o:a.eval (.tmp c)=.bool b:=by simp[Act.eval,l]
    unfold Oper.wp;have f:(execOp a.eval g).run P w=.ok (.value<|a.eval<|bif b then x else y) w:=by
     simp only[execOp,j,o];cases b<;>rfl
    rw[f];exact n _ (h.dv _)
 .cases e
def UP.put{G i o r}(h:UP all G a ((i,o)::r)) v:UP all G (a.put o.dst v) r:=by
 intro g b;obtain⟨c,e,f,j⟩:=h g b;obtain⟨k,l⟩:=zx j;exact⟨c,e,by rw[gx k];exact f,l⟩
def XH{d j want}:∀{items inner},oM d items=(oM d (under j want inner items).1||oM d (under j want inner items).2):=by
 intro items;induction items with
 | nil=>intro inner;rfl
 | cons p r b =>
   obtain⟨i,o⟩:=p;intro inner;unfold under;cases e:Ae o.guard j want with
   | true=>simp only[z6,oM,ZT];rw[b (inner:=i::inner)]
   | false =>
     have both:∀c,oM d ((i,o)::r)=(oM d (bif c then((i,o)::(under j want (i::inner) r).1,(under j want (i::inner) r).2) else([],(i,o)::r)).1 ||
       oM d (bif c then((i,o)::(under j want (i::inner) r).1,(under j want (i::inner) r).2) else([],(i,o)::r)).2):=by
      intro c;cases c with
      | true=>simp only[z6,oM,ZT];rw[b]
      | false=>simp[oM]
     apply both
def XI{p:Option Nat->Prop}{j want}:∀{items inner},(∀i o,(i,o)∈items->p o.dst) ->
  (∀i o,(i,o)∈(under j want inner items).1->p o.dst)/\(∀i o,(i,o)∈(under j want inner items).2->p o.dst):=by
 intro items;induction items with
 | nil=>intro inner h;exact⟨h,h⟩
 | cons q r l =>
   obtain⟨e,f⟩:=q;intro inner h;have m:=h e f (pL ..);have n:=λi o b=>h i o (vi _ b);unfold under;cases s:Ae f.guard j want with
   | true =>
     obtain⟨g,k⟩:=l n;refine⟨λi o b=>?_,k⟩;rcases ld.1 b with b|b
     .obtain⟨_,rfl⟩:=cg b;exact m
     .exact g i o b
   | false =>
     have both:∀c,(∀i o,(i,o)∈(bif c then((e,f)::(under j want (e::inner) r).1,(under j want (e::inner) r).2) else([],(e,f)::r)).1->p o.dst) /\
       (∀i o,(i,o)∈(bif c then((e,f)::(under j want (e::inner) r).1,(under j want (e::inner) r).2) else([],(e,f)::r)).2->p o.dst):=by
      intro c;cases c with
      | true =>
        obtain⟨g,k⟩:=l n;refine⟨λi o b=>?_,k⟩;rcases ld.1 b with b|b
        .obtain⟨_,rfl⟩:=cg b;exact m
        .exact g i o b
      | false=>exact⟨λi o b=>(by cases b),h⟩
     apply both
def Jg{t}{b:Bool}(h:dK B N γ σ a w)(f:σ.br t=.data .bool b):a.tmps[t]?=ab (.bool b):=by
 have:=h.br t;rw[f] at this;have e:=Ah this;rw[Xc] at e;cases c:a.tmps[t]? with
 | none=>rw[c] at e;cases e
 | some y=>rw[c] at e;exact congrArg ab e
def UR{α c want}{t e:Tree α}{y}(h:(Tree.node (bif want then c else nt c) t e).run=ab y):(c=want/\t.run=ab y)\/(c≠want/\c=(!want)/\e.run=ab y):=by
 have:=gR h;cases c<;>cases want
 .exact .inl ⟨rfl,this⟩
 .exact .inr ⟨aY,rfl,this⟩
 .exact .inr ⟨aY,rfl,this⟩
 .exact .inl ⟨rfl,this⟩
def O2(hc:fX P cx)(ahb:rb P B.G cx)(ahc:x4 P B.G inl)(akH:∀f ajj σ v ba,(inl f ajj σ).run=ab (v,ba)->b8 σ ba){Q} :
  ∀n {items l rest σ ba γ a w G},sV all G items l->UP all G a items->(∀i o,(i,o)∈items->∀k,o.dst=ab k->k<N) ->
   (rL cx nb bf inl all n items σ).run=ab ba->dK B N γ σ a w ->
   (∀bK a' w',dK B N bK ba a' w'->Ext B γ σ.mem w bK ba.mem w'->Fr items a a'->wpList P all Q rest a' w')->wpList P all Q (l++rest) a w:=by
 intro n;induction n with
 | zero=>intro items l rest σ ba γ a w G _ _ _ s;cases s
 | succ n ih =>
   intro items l rest σ ba γ a w G hit hG hd s h hK;cases hit with
   | nil =>
     obtain rfl:=aR s;exact hK γ a w h (Ext.refl _ _ _ _) (λt _=>rfl)
   | @cons i o o' r l h1 h2 h3 =>
     have O:o'.dst=o.dst:=by rcases h2 with rfl|⟨_,_,_,rfl⟩<;>rfl
     unfold rL at s;split at s
     .rename_i hg;obtain⟨b6,r1,r2⟩:=bind_some s;have hw:Region.wanted o (yielded all a.tmps)=true:=by
       rcases h2 with rfl|⟨g,k1,k2,k3⟩
       .unfold Region.wanted;rw[hg]
       .exact hG.wanted k1 k2
      have r1':(rK cx nb bf inl o σ).run=ab b6:=by
       rcases h2 with rfl|⟨g,k1,k2,rfl⟩
       .exact r1
       .exact r1
      show wpList P all Q (o::_) a w
      unfold wpList;rw[hw];refine .inl (Mo hc ahb ahc h (λk X=>hd i o' (pL ..) k (by rw[O];exact X)) r1' λu v L R x1=>?_);have hG':=hG.put v;rw[O] at hG';refine ih h3 hG' (λi o hm=>hd i o (vi _ hm)) r2 R λS a2 w2 s2 x2 f2=>hK S a2 w2 s2 (x1.trans x2) λt ht=>?_;obtain⟨t1,Y⟩:=zx ht;rw[f2 t Y,gx (by rw[<-O];exact t1)]
     .rename_i j m hg;dsimp only at s;split at s
      .exact absurd s cm
      rename_i dj hdj;split at s
      case h_2=>exact absurd s cm
      rename_i c ip pk F akI aex;cases hh:oM dj (under j m [] _).1 with
      | true=>rw[hh] at s;exact absurd s cm
      | false =>
      rw[hh] at s;split at s
      .exact absurd s cm
      rename_i hpg;have T:=Jg h akI;obtain⟨l1,l2,e1,I1,I2⟩:=UO (sV.cons h1 h2 h3);obtain⟨d1,d2⟩:=XI (p:=λd=>∀k,d=ab k->k<N) hd;have U:∀d,oM d ((i,o')::r)=(oM d (under j m [] _).1||oM d (under j m [] _).2):=λd=>XH;have akJ:=λq=>XF (P:=P) (w:=w) (Q:=Q) hdj q (sV.cons h1 h2 h3) T hh Fx;generalize hg1:(under j m [] _).1=Z at *;rw[aex] at I2 d2 U;cases I2 with
      | @cons _ z _ _ l2' p1 p2 p3 =>
      have H:pk.dst=z.dst:=by rcases p2 with rfl|⟨_,_,_,rfl⟩<;>rfl
      have amr:pk.op=z.op:=by rcases p2 with rfl|⟨_,_,_,rfl⟩<;>rfl
      rw[e1,uH];have C:∀{d},oM d ((i,o')::r)=false->oM d Z=false/\z.dst≠ab d/\oM d F=false:=by
       intro d hd0;rw[U] at hd0;simp at hd0;obtain⟨q1,q2⟩:=zx hd0.2;exact⟨hd0.1,by rw[<-H];exact q1,q2⟩
      have tail:∀u τ cQ A L v b,dK B N u τ A L->Fr Z a A->c=b->Af τ pk dj b=ab v ->
        (∀y,cM u τ.mem L v .val [y]->∃S,dK B N S cQ (A.put z.dst y) L/\Ext B γ σ.mem w S cQ.mem L)->(rL cx nb bf inl all n F cQ).run=ab ba ->
        wpList P all Q (z::l2'++rest) A L:=by
       intro u τ cQ A L v b R E hcb D hy I;have hGp:UP all G A ((ip,pk)::F):=λg V=>by
        obtain⟨dj',k1,k2,k3⟩:=hG g V;obtain⟨q1,q2,q3⟩:=C k3;refine⟨dj',k1,by rw[E dj' q1];exact k2,?_⟩;simp only[oM,OM];refine⟨?_,q3⟩;cases M:pk.dst with
        | none=>rfl
        | some k=>exact kr λe=>q2 (by rw[<-H,M,e])
       have hwp:Region.wanted z (yielded all A.tmps)=true:=by
        rcases p2 with rfl|⟨g,k1,k2,k3⟩
        .unfold Region.wanted;rw[hpg]
        .exact hGp.wanted k1 k2
       show wpList P all Q (z::_) A L
       unfold wpList;rw[hwp];have ams:Af τ z dj b=ab v:=by rw[<-D];unfold Af;rw[amr]
       refine .inl (XG R (by rw[E dj hh];exact T) hcb ams λy hyr=>?_);obtain⟨S,s2,x2⟩:=hy y hyr;have hGr:=hGp.put y;rw[H] at hGr;refine ih p3 hGr (λi o hm=>d2 i o (vi _ hm)) I s2 λγ3 a3 w3 s3 x3 f3=>hK γ3 a3 w3 s3 (x2.trans x3) λt ht=>?_;obtain⟨q1,q2,q3⟩:=C ht;rw[f3 t q3,gx q2,E t q1]
      have W:∀(τ:St) d v,(τ.bD d v).mem=τ.mem:=λτ d v=>by cases d<;>rfl
      have M:=λk X=>d2 ip pk (pL ..) k (by rw[H];exact X);have hG1:c=m->UP all ((j,m)::G) a Z:=λq g V=>by
       rcases ld.1 V with rfl|V
       .exact⟨dj,hdj,by rw[<-q];exact T,hh⟩
       .obtain⟨dj',k1,k2,k3⟩:=hG g V;exact⟨dj',k1,k2,(C k3).1⟩
      have kJ:c≠m->(∀A,Fr Z a A->A.tmps.size=a.tmps.size->A.defers=a.defers->wpList P all Q (z::l2'++rest) A w)->wpList P all Q (l1++(z::l2'++rest)) a w:=by
       intro q X;obtain⟨m1,m2,q1,q2,q3⟩:=akJ q;rw[e1] at q1;obtain⟨rfl,rfl⟩:=List.append_inj q1 (by rw[q2,I1.length]);exact q3 _ X
      cases Z1:KR cx Z with
      | true =>
        rw[Z1] at s;obtain⟨cQ,J,I⟩:=bind_some s;rcases UR J with ⟨q,J⟩|⟨q,hcn,J⟩
        .obtain⟨τ,t1,Y⟩:=bind_some J;split at Y
         .rename_i v D;obtain rfl:=aR Y;refine ih I1 (hG1 q) d1 t1 h λu A L R x1 E=>tail u τ _ A L v m R E q D (λy hy=>⟨u,?_,?_⟩) I
          .rw[H];exact R.wT M hy
          .rw[W];exact x1
         .exact absurd Y cm
        .split at J
         .rename_i v D;obtain rfl:=aR J;refine kJ q λA E f2 f3=>tail γ (σ.undef Z) _ A w v (!m) (h.undef E (f2.trans h.size)<|f3.trans h.defers) E hcn D (λy hy=>⟨γ,?_,?_⟩) I
          .rw[H];exact(h.undef E (f2.trans h.size)<|f3.trans h.defers).wT M hy
          .rw[W,wM];apply Ext.refl
         .exact absurd J cm
      | false =>
        rw[Z1] at s;simp at s;split at s
        case h_2=>exact absurd s cm
        rename_i t dp hT hdp;rw[Tree.BV] at s;obtain⟨x,J,I⟩:=DD.1 s;have K:z.dst=ab dp:=by rw[<-H];exact hdp
        rcases UR J with ⟨q,J⟩|⟨q,hcn,J⟩
        .obtain⟨τ,t1,Y⟩:=bind_some J;split at Y
         .rename_i x' D;obtain rfl:=aR Y;obtain⟨v,hv1,hv2⟩:=DD.1 D;refine ih I1 (hG1 q) d1 t1 h.jz λu A L R x1 E=>tail u τ _ A L v m R E q hv1 (λy hy=>?_) I;obtain⟨m1,m2⟩:=h.ok.unlock (Se<|F9 akH n Z _ τ t1) R.ok x1;refine⟨u,?_,?_⟩
          .rw[K];exact((h.go m2 m1).undef E R.size R.defers).wT (λk X=>M k (by rw[K];exact X)) (Z2 hv2 hy)
          .show Ext B γ σ.mem w u (σ.undef Z).mem L
           rw[wM];exact m2
         .exact absurd Y cm
        .split at J
         .rename_i x' D;obtain rfl:=aR J;obtain⟨v,hv1,hv2⟩:=DD.1 D;refine kJ q λA E f2 f3=>tail γ _ _ A w v _ (h.undef E (f2.trans h.size)<|f3.trans h.defers) E hcn hv1 (λy hy=>⟨γ,?_,?_⟩) I
          .rw[K];exact(h.undef E (f2.trans h.size)<|f3.trans h.defers).wT (λk X=>M k (by rw[K];exact X)) (Z2 hv2 hy)
          .show Ext B γ σ.mem w γ (σ.undef Z).mem w
           rw[wM];apply Ext.refl
         .exact absurd J cm
end
end Go.Ge
namespace Go.Ge
open RowKit
section
variable {P:Program} {B:BI} {N:Nat} {γ:Gh} {σ ba:St} {a:Act} {w w':World} {cx:Ctx} {nb:Nat} {bf:List Nat} {inl:Nat->List cA->St->Tree (cA×St)} {ops:Array Oper}
def Sf:∀{l:List Oper} {k:Nat},(∀j,l[j]?=ops[k+j]?)->sV ops [] (number k l) l:=by
 intro l;induction l with
 | nil=>intro k _;exact .nil
 | cons o l b =>
   intro k h;refine .cons ?_ (.inl rfl) (b λj=>by have:=h (j+1);simpa [Fz,ZU 1 j] using this);have:=h 0;simpa using this.symm
def XJ:∀{l:List Oper} {k i:Nat} {o:Oper},(i,o)∈number k l->o∈l:=by
 intro l;induction l with
 | nil=>intro k i o h;cases h
 | cons p l b =>
   intro k i o h;rcases ld.1 h with h|h
   .obtain⟨_,rfl⟩:=cg h;exact pL ..
   .exact vi _ (b h)
def Sg(n:fX P cx)(c:rb P B.G cx)(e:x4 P B.G inl)(b:∀f g σ v ba,(inl f g σ).run=ab (v,ba)->b8 σ ba){Q:Exit->Act->World->Prop}{id:Nat}
  (q:∀o∈ops.toList,∀k,o.dst=ab k->k<N) (r:(LO cx nb bf inl ops σ).run=ab ba) (h:dK B N γ σ a w)
  (t:∀bK m w',dK B N bK ba m w'->Ext B γ σ.mem w bK ba.mem w'->Fr (number 0 ops.toList) a m->Q .normal m w'):(Code.region id ops false).wp P Q a w:=by
 refine wp_region_list ?_;have:=O2 (all:=ops) (Q:=Q) (rest:=[]) n c e b _ (Sf (l:=ops.toList) (k:=0) λj=>aY) Fx (λi o u=>q o (XJ u)) r h
  (λbK m w' s x f=>wpList_nil (t bK m w' s x f))
 simpa using this
end
end Go.Ge
namespace Go.Ge
open RowKit
def vk(p:Nat->Prop)(e c:St):Prop:=∀b,c.mem b=e.mem b\/(c.mem b≠ah/\p b)
section
variable {p:Nat->Prop} {σ τ ρ:St}
def vk.refl σ:vk p σ σ:=λ_=>.inl rfl
def vk.aew(h:τ.mem=σ.mem):vk p σ τ:=λb=>.inl (by rw[h])
def vk.trans(h:vk p σ τ)(k:vk p τ ρ):vk p σ ρ:=λb=>by
 rcases k b with c|c
 .rcases h b with e|⟨e,f⟩
  .exact .inl (c.trans e)
  .exact .inr ⟨by rw[c];exact e,f⟩
 .exact .inr c
def vk.bD σ d v:vk p σ (σ.bD d v):=by cases d<;>exact λ_=>.inl rfl
def vk.put σ d v:vk p σ (σ.put d v):=λ_=>.inl rfl
def vk.ch{b bx}(h:p b):vk p σ (σ.ch b bx):=λc=>by
 by_cases e:c=b
 .subst e;exact .inr ⟨by simp[St.ch],h⟩
 .exact .inl (by rw[wV,bg _ e])
end
def ck(p:Nat->Prop)(b:St)(T:Tree St):Prop:=∀y,T.run=ab y->vk p b y
section
variable {p:Nat->Prop} {σ:St}
def ck.fail:ck p σ .fail:=λy h=>by cases h
def ck.ret{ba}(h:vk p σ ba):ck p σ (.ret ba):=λy b=>by obtain rfl:=aR b;exact h
def ck.bif{c t}(h:ck p σ t):ck p σ (bif c then t else .fail):=λy b=>h y (aJ b).2
def ck.jL{c t}(h:ck p σ t):ck p σ (.jL c t):=λy b=>h y (cP b).2
def ck.look{T}{o:Option T}{k}(h:∀x,ck p σ (k x)):ck p σ (.look o k):=λy b=>by obtain⟨x,_,c⟩:=cp b;exact h x y c
def ck.node{c t e}(h:ck p σ t)(k:ck p σ e):ck p σ (.node c t e):=λy b=>by
 have:=gR b;cases c with
 | true=>exact h y this
 | false=>exact k y this
def ck.bind{α}{t:Tree α}{f}(h:∀x,t.run=ab x->ck p σ (f x)):ck p σ (t.bind f):=λy b=>by obtain⟨x,c,e⟩:=bind_some b;exact h x c y e
def ck.bF{b val tid buf d}{v:Nat->cA}(h:p b):ck p σ (σ.bF b val tid buf λc σ=>.ret (σ.put d<|v c)):=λy e=>by
 obtain⟨c,g,f⟩:=oc e;obtain rfl:=aR f;exact(vk.ch h).trans (vk.put _ _ _)
def Mx{σ ba b}(g:∀b,σ.mem b≠ah->p b)(h:freeze σ b=ab ba):vk p σ ba:=by
 unfold freeze at h;split at h
 .rename_i f i;cases c:f.ro with
  | true=>simp only[c,z6,Lt] at h;rw[<-h];apply vk.refl
  | false =>
    cases e:f.lk with
    | true=>simp[c,e] at h
    | false =>
      simp only[c,e,FA,Lt] at h;rw[<-h];exact vk.ch (g b<|by rw[i];simp)
 .cases h
def Kg(p:Nat->Prop)(e c:St):Prop:=(∀b,e.mem b≠ah->p b)->vk p e c/\∀b,c.mem b≠ah->p b
def Kg.refl σ:Kg p σ σ:=λh=>⟨vk.refl _,h⟩
def Kg.trans{σ τ ρ}(h:Kg p σ τ)(k:Kg p τ ρ):Kg p σ ρ:=λb=>by
 obtain⟨c,e⟩:=h b;obtain⟨f,g⟩:=k e;exact⟨c.trans f,g⟩
def Kg.of{σ ba}(h:(∀b,σ.mem b≠ah->p b)->vk p σ ba):Kg p σ ba:=λc=>by
 refine⟨h c,λb e=>?_⟩;rcases h c b with k|k
 .exact c b (by rw[<-k];exact e)
 .exact k.2
def US:∀{v σ ba},jx σ v=ab ba->Kg p σ ba:=by
 intro v;induction v with
 | mix p q c e =>
   intro σ ba h;obtain⟨b6,g,i⟩:=xY h;exact(c g).trans (e i)
 | whole b aV=>intro σ ba h;exact Kg.of λf=>Mx f h
 | part b aV lo n=>intro σ ba h;exact Kg.of λf=>Mx f h
 | _=>intro σ ba h;obtain rfl:=aR h;apply Kg.refl
def zy{t x v σ ba}(h:BW σ t v=ab (x,ba)):Kg p σ ba:=by
 unfold BW at h;split at h
 .split at h
  .obtain⟨_,rfl⟩:=cg (aR h);apply Kg.refl
  .cases h
 .split at h
  .rename_i y b6 c b;obtain⟨_,rfl⟩:=cg (aR h);exact US b
  .cases h
def Cd:∀{A x vs σ ba},l6 σ A vs=ab (x,ba)->Kg p σ ba:=by
 intro A;induction A with
 | pair t r e c =>
   intro x vs σ ba b;cases vs with
   | nil=>cases b
   | cons v vs =>
     simp only[l6] at b;split at b
     .rename_i p b6 f;split at b
      .rename_i q cQ g;obtain⟨_,rfl⟩:=cg (aR b);exact(zy f).trans (c g)
      .cases b
     .cases b
 | unit =>
   intro x vs σ ba b;cases vs with
   | nil=>obtain⟨_,rfl⟩:=cg (aR b);apply Kg.refl
   | cons v vs=>cases b
 | _=>intro x vs σ ba b;cases vs<;>cases b
def My{t}:∀{parts x b σ ba},hJ σ t x parts=ab (b,ba)->Kg p σ ba:=by
 intro parts;induction parts with
 | nil=>intro x b σ ba h;obtain⟨_,rfl⟩:=cg (aR h);apply Kg.refl
 | cons p r c =>
   intro x b σ ba h;simp only[hJ] at h;split at h
   .split at h
    .rename_i e;split at h
     .exact(zy e).trans (c h)
     .cases h
    .cases h
   .cases h
def yP{e}:∀{parts l c σ ba},fU σ e l parts=ab (c,ba)->Kg p σ ba:=by
 intro parts;induction parts with
 | nil=>intro x i σ ba h;obtain⟨_,rfl⟩:=cg (aR h);apply Kg.refl
 | cons p r f =>
   obtain⟨k,o⟩:=p;intro l c σ ba h;simp only[fU] at h;split at h
   .rename_i g;cases b:Nat.blt k l.length with
    | false=>rw[b] at h;cases h
    | true=>rw[b] at h;exact(zy g).trans (f h)
   .cases h
def Jh{b aV k fit u σ ba}(e:(storeAt b aV k fit u σ).run=ab ba):Kg p σ ba:=Kg.of λl=>by
 unfold storeAt at e;split at e
 case h_2=>exact absurd e cm
 rename_i o m;obtain⟨q,f⟩:=aJ e;obtain⟨n,r,g⟩:=bind_some f;obtain⟨j,h⟩:=aJ g;obtain⟨c,s,i⟩:=bind_some h;obtain rfl:=aR i;exact vk.ch (l b<|by rw[m];simp)
def UT{b aV l n u σ ba}(e:(tO b aV l n u σ).run=ab ba):Kg p σ ba:=Kg.of λm=>by
 unfold tO at e;split at e
 case h_2=>exact absurd e cm
 rename_i s o;obtain⟨t,f⟩:=aJ e;obtain⟨q,v,g⟩:=bind_some f;obtain⟨k,h⟩:=aJ g;obtain⟨c,x,i⟩:=bind_some h;obtain⟨r,j⟩:=aJ i;obtain rfl:=aR j;exact vk.ch (m b<|by rw[o];simp)
def O3{cx bf ty x y σ ba}(e:(mZ cx bf ty x y σ).run=ab ba):Kg p σ ba:=by
 unfold mZ at e;split at e
 case h_2=>exact absurd e cm
 split at e
 case h_2=>exact absurd e cm
 obtain⟨g,f⟩:=aJ e;obtain⟨i,l,c⟩:=bind_some f;split at c
 .rename_i u _;obtain⟨j,b⟩:=aJ c;cases h:dz bf 8000000&&ad8 u y with
  | true=>rw[h] at b;exact UT b
  | false =>
  rw[h] at b;split at b
  .rename_i k;exact(zy k).trans (Jh b)
  .exact absurd b cm
 .obtain⟨j,b⟩:=aJ c;exact Jh b
def Ce{cx nb d ty s x σ ba}(g:∀k,d=ab k->p (nb+k))(h:∀b,σ.mem b≠ah->p b)(c:(je cx nb d ty s x σ).run=ab ba):vk p σ ba:=by
 unfold je at c;split at c
 case h_2=>exact absurd c cm
 split at c
 case h_2=>exact absurd c cm
 split at c
 .obtain⟨i,e⟩:=cP c;exact ck.bF (g _ rfl) _ e
 .split at c
  case h_2=>exact absurd c cm
  rename_i n l j o;obtain⟨m,f⟩:=Ak c;obtain⟨i,e⟩:=cP f;obtain rfl:=aR e;exact(vk.ch<|h _<|by rw[j];simp).trans (vk.put _ _ _)
 .exact absurd c cm
def XK{b val tid buf d}{v:Nat->cA}{σ ba}(h:p b)(e:(σ.bF b val tid buf λc σ=>.ret (σ.put d<|v c)).run=ab ba):vk p σ ba:=ck.bF h _ e
def O4{nb e d args σ ba}(f:∀k,d=ab k->p (nb+k))(g:∀b,σ.mem b≠ah->p b)(c:(nf nb e d args σ).run=ab ba):vk p σ ba:=by
 unfold nf at c;split at c
 case h_2=>cases c
 split at c
 case h_2=>cases c
 rename_i h;obtain⟨_,c⟩:=aJ c;obtain⟨_,c⟩:=cP c;exact((zy h) g).1.trans (XK (f _ rfl) c)
def UU{e A res spec d args σ ba}(i:∀b,σ.mem b≠ah->p b)(c:(tQ e A res spec d args σ).run=ab ba):vk p σ ba:=by
 unfold tQ at c;split at c
 case h_2=>cases c
 split at c
 case h_2=>cases c
 rename_i x b6 j;split at c
 case h_2=>cases c
 rename_i b m q l g;obtain⟨r,_,c⟩:=cp c;obtain⟨n,_⟩:=uP g;obtain⟨h,o⟩:=(Cd j) i;have key:∀f,vk p b6 (b6.ch b f):=λf=>vk.ch (o b<|by rw[n];simp);cases res with
 | true =>
   cases d with
   | none=>cases c
   | some k=>obtain rfl:=aR c;exact(h.trans<|key _).trans (vk.put _ _ _)
 | false =>
   cases d with
   | none=>obtain⟨_,c⟩:=aJ c;obtain rfl:=aR c;exact(h.trans<|key _).trans (vk.bD _ ah _)
   | some k=>obtain⟨_,c⟩:=aJ c;obtain rfl:=aR c;exact(h.trans<|key _).trans (vk.bD _ _ _)
end
def O5{p:Prop}(h:p:=by
 repeat' (first
  | exact ck.fail|exact ck.ret (vk.bD _ _ _)|exact ck.ret (vk.put _ _ _)|exact ck.bF (by assumption)
  | refine ck.bif ?_|refine ck.jL ?_|refine ck.look λ_=>?_|refine ck.node ?_ ?_|refine ck.bind λ_ _=>?_|split)):p:=h
section
variable {cx:Ctx} {nb:Nat} {bf:List Nat} {d:Option Nat} {σ:St} {p:Nat->Prop}
def Si{c a b}:ck p σ (pU d c a b σ):=by unfold pU;exact O5
def Sj{ty a}:ck p σ (mF cx d ty a σ):=by unfold mF;exact O5
def O6{ty x lo hi}:ck p σ (na cx d ty x lo hi σ):=by unfold na;exact O5
def abn{b aV i}:∀{m k},ck p σ (LN d b aV σ i m k):=by
 intro m;induction m with
 | zero=>exact ck.fail
 | succ m c=>exact ck.node (ck.ret<|vk.bD _ _ _) c
def x7{ty x i}:ck p σ (fc cx d ty x i σ):=by
 unfold fc;split
 case h_6=>split
           .exact ck.bif abn
           .exact ck.fail
 all_goals exact O5
def O7{ty x i}:ck p σ (nc cx d ty x i σ):=by
 unfold nc;split
 .refine ck.bif ?_;split
  .exact ck.bif (ck.ret<|vk.bD _ _ _)
  .exact ck.fail
 .exact x7
def O8{ty x i}:ck p σ (nd cx d ty x i σ):=by unfold nd;exact O5
def Ga{s x k}:ck p σ (fD cx d s x k σ):=by unfold fD;exact O5
def Cf{ty v}(b:∀k,d=ab k->p (nb+k)):ck p σ (kp cx nb bf d ty v σ):=by
 unfold kp;split
 .exact O5
 .split
  .rename_i k e _;cases dz bf k with
   | true=>exact ck.bF (b _ rfl)
   | false=>exact ck.ret (vk.put _ _ _)
  .exact ck.ret (vk.bD _ _ _)
 .exact ck.ret (vk.bD _ _ _)
def Kh{s t x}(b:∀k,d=ab k->p (nb+k)):ck p σ (iJ cx nb d s t x σ):=by
 unfold iJ;split
 .exact O5
 .exact O5
 .split
  .exact ck.jL (ck.bF<|b _ rfl)
  .exact ck.fail
 .exact O5
 .exact O5
def XL{o ge}(M:rM o σ=ge)(F:cls cx ge o≠3)(q:cls cx ge o≠0->∀k,o.dst=ab k->p (nb+k))(D:cls cx ge o≠0->cls cx ge o≠1->∀b,σ.mem b≠ah->p b):ck p σ (rK cx nb bf B1 o σ):=by
 unfold rK;split
 case h_1 x h=>exact Cf (q<|by simp[cls,h])
 case h_2 x h=>exact Cf (q<|by simp[cls,h])
 case h_3=>exact Si
 case h_4 e h =>
  split
  .rename_i k t T I;have X:cls cx ge o≠0:=by
    cases t<;>simp[cls,h,I]
   unfold wJ;split
   .exact absurd (by simp[cls,h,I]) F
   .exact ck.bF (q X _<|by assumption)
  .rename_i I;split
   .rename_i G;exact absurd (by simp[cls,h,I,G]) F
   .rename_i G;exact ck.bif (ck.bF<|q (by simp[cls,h,I,G]) _<|by assumption)
  .exact ck.fail
 case h_5 e x h =>
  unfold FD;split
  .exact ck.fail
  .exact ck.fail
  .split
   .rename_i G;exact absurd (by simp[cls,h,G]) F
   .rename_i G;exact ck.bF (q (by simp[cls,h,G]) _<|by assumption)
  .exact ck.fail
 case h_6 t ps h =>
  have j:=D (by simp[cls,h]) (by simp[cls,h]);split
  .split
   .rename_i z;exact ck.ret ((My z j).1.trans<|vk.bD _ _ _)
   .exact ck.fail
  .split
   .rename_i z;exact ck.ret ((yP z j).1.trans<|vk.bD _ _ _)
   .exact ck.fail
  .exact O5
  .exact ck.fail
 case h_7 t n ps h =>
  have j:=D (by simp[cls,h]) (by simp[cls,h]);split
  .split
   .rename_i k J L;exact ck.bF (q (by simp[cls,h]) k (EN J).1)
   .refine ck.bif ?_;split
    .rename_i z;split
     .rename_i k T;exact λy C=>(yP z j).1.trans (ck.bF (q (by simp[cls,h]) k<|x6 T) _ C)
     .exact ck.ret ((yP z j).1.trans<|vk.bD _ _ _)
    .exact ck.fail
  .unfold C3;split
   .exact ck.bif (ck.bF<|q (by simp[cls,h]) _<|by assumption)
   .exact ck.fail
  .exact ck.fail
 case h_8=>exact Sj
 case h_9 t a x h =>
  have j:=D (by simp[cls,h]) (by simp[cls,h]);split
  .exact λy C=>(O3 C j).1
  .exact ck.fail
 case h_10=>exact O5
 case h_11=>exact O5
 case h_12=>exact O5
 case h_13 s t x h=>exact Kh (q<|by simp[cls,h])
 case h_14=>exact O5
 case h_15=>exact O6
 case h_16=>exact Ga
 case h_17=>exact O5
 case h_18=>split
            .cases dz bf 5000000 with
             | true=>exact O7
             | false=>exact x7
            .exact ck.fail
 case h_19=>split
            .exact O8
            .exact ck.fail
 case h_20 t l c h =>
  split
  .exact ck.jL (ck.jL<|ck.bF<|q (by simp[cls,h]) _<|by assumption)
  .exact ck.fail
 case h_21=>exact O5
 case h_22 c h =>
  unfold wR;split
  .rename_i b z;split
   .exact O5
   .have H:cls cx ge o≠0:=by simp[cls,h,z]
    have U:cls cx ge o≠1:=by simp[cls,h,z]
    split
    .exact λy C=>Ce (q H) (D H U) C
    .exact λy C=>Ce (q H) (D H U) C
    .exact ck.fail
   .exact absurd (by simp[cls,h,z]) F
   .exact absurd (by simp[cls,h,z]) F
   .exact O5
   .exact O5
   .exact ck.fail
  .rename_i f E;split
   .rename_i g V O;refine ck.bif ?_;have v:ge=ab g:=by rw[<-M];simp[rM,h,E,O]
    unfold vT;split
    .rename_i e R;have key:cls cx ge o=2:=by simp[cls,h,E,v,x5 R]
     have H:cls cx ge o≠0:=by rw[key];simp
     exact λy C=>O4 (q H) (D H<|by rw[key];simp) C
    .rename_i e A r s R;have key:cls cx ge o=2:=by simp[cls,h,E,v,x5 R]
     exact λy C=>UU (D (by rw[key];simp)<|by rw[key];simp) C
    unfold yK;split
    .rename_i Y i;split
     .split
      .exact ck.look λ_=>ck.ret (vk.bD _ _ _)
      .exact ck.fail
     .rename_i S;have key:cls cx ge o=2:=by
       unfold cls;simp only[h,E,v];split
       .rfl
       .rfl
       .simp[i,S]
      split
      .rename_i K;exact ck.look λ_=>ck.ret ((Cd K<|D (by rw[key];simp)<|by rw[key];simp).1.trans<|vk.bD _ _ _)
      .exact ck.fail
    .rename_i i;split
     .rename_i s m;unfold C2;split
      .exact absurd (by simp[cls,h,E,v,i,m]) F
      .exact absurd (by simp[cls,h,E,v,i,m]) F
      .exact ck.fail
     .rename_i m;exact absurd (by simp[cls,h,E,v,i,m]) F
   .exact ck.fail
  .rename_i r W E;have key:cls cx ge o=2:=by simp[cls,h,E]
   unfold ti;split
   .split
    .rename_i K;exact ck.look λ_=>ck.ret ((Cd K<|D (by rw[key];simp)<|by rw[key];simp).1.trans<|vk.bD _ _ _)
    .exact ck.fail
   .exact ck.fail
 case h_23 u x h =>
  have key:cls cx ge o=2:=by simp[cls,h]
  unfold tg;split
  .split
   .split
    .rename_i K;exact ck.ret ((zy K<|D (by rw[key];simp)<|by rw[key];simp).1.trans<|vk.bD _ _ _)
    .exact ck.fail
   .exact ck.fail
  .exact ck.fail
 case h_24=>exact ck.fail
end
end Go.Ge
namespace Go.Ge
open RowKit
def Le(c e:St):Prop:=∀b f,c.mem b=ab f->e.mem b=ab f
structure Rel (b6 cQ qt pX:St):Prop where
 s1:qt.br=b6.br
 s2:pX.br=cQ.br
 m:∀b,pX.mem b=match qt.mem b with|some x=>ab x|none=>cQ.mem b
 nv:∀b,qt.mem b=ah->b6.mem b=ah
section
variable {b6 cQ qt pX ρ1 ρ2:St}
def Rel.refl(h:Le b6 cQ):Rel b6 cQ b6 cQ where
 s1:=rfl
 s2:=rfl
 m:=λb=>by
  cases c:b6.mem b with
  | none=>rfl
  | some x=>exact h b x c
 nv:=λ_ h=>h
def Rel.le(h:Rel b6 cQ qt pX):Le qt pX:=λb e c=>by rw[h.m,c]
def Rel.trans(h:Rel b6 cQ qt pX)(k:Rel qt pX ρ1 ρ2):Rel b6 cQ ρ1 ρ2 where
 s1:=k.s1.trans h.s1
 s2:=k.s2.trans h.s2
 m:=λb=>by
  rw[k.m b];cases c:ρ1.mem b with
  | some x=>rfl
  | none=>rw[h.m b,k.nv b c]
 nv:=λb c=>h.nv b (k.nv b c)
def Rel.ch(f:Le b6 cQ){b bx}:Rel b6 cQ (b6.ch b bx) (cQ.ch b bx) where
 s1:=rfl
 s2:=rfl
 m:=λc=>by
  by_cases e:c=b
  .subst e;simp[St.ch]
  .rw[wV,wV,bg _ e,bg _ e];exact(Rel.refl f).m c
 nv:=λc g=>by
  by_cases e:c=b
  .subst e;simp[St.ch] at g
  .rw[wV,bg _ e] at g;exact g
def C8{σ τ}(h:τ.br=σ.br) x:dv τ x=dv σ x:=by
 cases x<;>simp[dv,h]
def C9(h:Le b6 cQ){e v l}(c:jM e b6 v=ab l):jM e cQ v=ab l:=by
 unfold jM at c⊢;cases v with
 | whole b aV =>
   simp only at c⊢;cases f:b6.mem b with
   | none=>rw[f] at c;cases c
   | some g=>rw[f] at c;rw[h b g f];exact c
 | part b aV lo n =>
   simp only at c⊢;cases f:b6.mem b with
   | none=>rw[f] at c;cases c
   | some g=>rw[f] at c;rw[h b g f];exact c
 | data u y=>cases u<;>exact c
 | _=>exact c
def Z3(h:Le b6 cQ):∀{t v x},sP b6 t v=ab x->sP cQ t v=ab x:=by
 intro t;induction t with
 | slice e l=>intro v x c;exact C9 h c
 | pair a b f g =>
   intro v x c;cases v with
   | mix p q =>
     obtain⟨y,z,i,j,rfl⟩:=FX c;exact Qs (f i) (g j)
   | data u y=>exact c
   | _=>cases c
 | alt u a r f k =>
   intro v x c;cases v with
   | uK=>exact(ra c).2.1 _
   | _=>exact c
 | _=>intro v x c;cases v<;>exact c
def rV(h:Le b6 cQ){b aV}(c:live b6 b aV=true):live cQ b aV=true:=by
 unfold live at c⊢;cases e:b6.mem b with
 | none=>rw[e] at c;cases c
 | some f=>rw[e] at c;rw[h b f e];exact c
def aey(h:Le b6 cQ){v n}(c:lenOf b6 v=ab n):lenOf cQ v=ab n:=by
 unfold lenOf at c⊢;cases v with
 | whole b aV =>
   simp only at c⊢;cases e:b6.mem b with
   | none=>rw[e] at c;cases c
   | some f=>rw[e] at c;rw[h b f e];exact c
 | part b aV lo g =>
   simp only at c⊢;cases hv:live b6 b aV with
   | false=>rw[hv] at c;cases c
   | true=>rw[hv] at c;rw[rV h hv];exact c
 | data u y=>cases u<;>exact c
 | _=>exact c
def abo(h:Le b6 cQ){e v l}(b:yI e b6 v=ab l):yI e cQ v=ab l:=by
 unfold yI at b⊢;split at b
 .exact b
 .exact C9 h b
def Mz(h:Le b6 cQ){b aV r}(c:Aa b6 b aV=ab r):Aa cQ b aV=ab r:=by
 unfold Aa at c⊢;cases e:b6.mem b with
 | none=>rw[e] at c;cases c
 | some f=>rw[e] at c;rw[h b f e];exact c
def Qx(h:Le b6 cQ){b}(c:freeze b6 b=ab qt):∃pX,freeze cQ b=ab pX/\Rel b6 cQ qt pX:=by
 unfold freeze at c⊢;cases g:b6.mem b with
 | none=>rw[g] at c;cases c
 | some i =>
   rw[g] at c;rw[h b i g];cases e:i.ro with
   | true =>
     simp only[e,z6,Lt] at c⊢;subst c;exact⟨_,rfl,Rel.refl h⟩
   | false =>
     cases f:i.lk with
     | true=>simp[e,f] at c
     | false =>
       simp only[e,f,FA,Lt] at c⊢;subst c;exact⟨_,rfl,Rel.ch h⟩
def XM:∀{v b6 cQ qt},Le b6 cQ->jx b6 v=ab qt->∃pX,jx cQ v=ab pX/\Rel b6 cQ qt pX:=by
 intro v;induction v with
 | mix p q e f =>
   intro b6 cQ qt h c;obtain⟨ρ1,i,j⟩:=xY c;obtain⟨ρ2,k,g⟩:=e h i;obtain⟨pX,l,m⟩:=f g.le j;exact⟨pX,by simp only[jx,k,l],g.trans m⟩
 | whole b aV=>intro b6 cQ qt h c;exact Qx h c
 | part b aV lo n=>intro b6 cQ qt h c;exact Qx h c
 | _=>intro b6 cQ qt h c;obtain rfl:=aR c;exact⟨_,rfl,Rel.refl h⟩
def Da(h:Le b6 cQ){t x v}(b:BW b6 t v=ab (x,qt)):∃pX,BW cQ t v=ab (x,pX)/\Rel b6 cQ qt pX:=by
 unfold BW at b⊢;cases v with
 | data u y =>
   simp only at b⊢;split at b
   .rename_i z i;obtain⟨rfl,rfl⟩:=cg (aR b);exact⟨_,rfl,Rel.refl h⟩
   .cases b
 | _ =>
   simp only at b⊢;split at b
   .rename_i y ρ1 c e;obtain⟨rfl,rfl⟩:=cg (aR b);obtain⟨pX,f,g⟩:=XM h e;rw[Z3 h c,f];exact⟨pX,rfl,g⟩
   .cases b
def EP:∀{A x vs b6 cQ qt},Le b6 cQ->l6 b6 A vs=ab (x,qt)->∃pX,l6 cQ A vs=ab (x,pX)/\Rel b6 cQ qt pX:=by
 intro A;induction A with
 | pair t r g c =>
   intro x vs b6 cQ qt h b;cases vs with
   | nil=>cases b
   | cons v vs =>
     simp only[l6] at b⊢;split at b
     .rename_i p ρ1 i;obtain⟨ρ2,j,e⟩:=Da h i;split at b
      .rename_i q f k;obtain⟨rfl,rfl⟩:=cg (aR b);obtain⟨pX,l,m⟩:=c e.le k;exact⟨pX,by simp only[j,l],e.trans m⟩
      .cases b
     .cases b
 | unit =>
   intro x vs b6 cQ qt h b;cases vs with
   | nil=>obtain⟨rfl,rfl⟩:=cg (aR b);exact⟨_,rfl,Rel.refl h⟩
   | cons v vs=>cases b
 | _=>intro x vs b6 cQ qt h b;cases vs<;>cases b
def O9{t}:∀{parts x e b6 cQ qt},Le b6 cQ->(∀o∈parts.map (·.2),dv b6 o=dv cQ o)->hJ b6 t x parts=ab (e,qt) ->
  ∃pX,hJ cQ t x parts=ab (e,pX)/\Rel b6 cQ qt pX:=by
 intro parts;induction parts with
 | nil=>intro x e b6 cQ qt h g b;obtain⟨rfl,rfl⟩:=cg (aR b);exact⟨_,rfl,Rel.refl h⟩
 | cons p r j =>
   obtain⟨k,o⟩:=p;intro x e b6 cQ qt h g b;simp only[hJ] at b⊢;split at b
   .rename_i u v;split at b
    .rename_i y ρ1 i;rw[(g o aY)] at i;obtain⟨ρ2,l,f⟩:=Da h i;split at b
     .rename_i z m;obtain⟨pX,n,q⟩:=j f.le (λs c=>by rw[C8 f.s1,C8 f.s2];exact g s (by simp at c⊢;exact .inr c)) b;exact⟨pX,by simp only[l,m,n],f.trans q⟩
     .cases b
    .cases b
   .cases b
def Gb{e}:∀{parts l i b6 cQ qt},Le b6 cQ->(∀o∈parts.map (·.2),dv b6 o=dv cQ o)->fU b6 e l parts=ab (i,qt) ->
  ∃pX,fU cQ e l parts=ab (i,pX)/\Rel b6 cQ qt pX:=by
 intro parts;induction parts with
 | nil=>intro x v b6 cQ qt h j b;obtain⟨rfl,rfl⟩:=cg (aR b);exact⟨_,rfl,Rel.refl h⟩
 | cons p r n =>
   obtain⟨k,o⟩:=p;intro l i b6 cQ qt h j b;simp only[fU] at b⊢;split at b
   .rename_i y ρ1 m;rw[(j o aY)] at m;obtain⟨ρ2,q,g⟩:=Da h m;cases c:Nat.blt k l.length with
    | false=>rw[c] at b;cases b
    | true =>
      rw[c] at b;obtain⟨pX,s,t⟩:=n g.le (λu f=>by rw[C8 g.s1,C8 g.s2];exact j u (by simp at f⊢;exact .inr f)) b;exact⟨pX,by simp only[q,z6,s],g.trans t⟩
   .cases b
def lift(c:St)(d:Option Nat)(y:St):St :=
 { br:=match d with|some d=>λt=>bif Nat.beq t d then y.br d else c.br t|none=>c.br
   mem:=λb=>match y.mem b with|some x=>ab x|none=>c.mem b }
def abp(R:Rel b6 cQ qt pX) d v:lift cQ d (qt.bD d v)=pX.bD d v:=by
 have c:=funext λb=>(R.m b).symm;cases d with
 | none=>simp only[lift,St.bD,c,<-R.s2]
 | some d =>
   simp only[lift,St.bD,St.put,<-R.s2]
   congr 1
   funext t;cases e:Nat.beq t d with
   | true=>simp
   | false=>simp
def LT(b:St)(d:Option Nat)(c e:Tree St):Prop:=∀y,c.run=ab y->e.run=ab (lift b d y)
variable {d:Option Nat}
def LT.fail{T}:LT cQ d .fail T:=λy h=>by cases h
def LT.ret(R:Rel b6 cQ qt pX){v}:LT cQ d (.ret<|qt.bD d v) (.ret<|pX.bD d v):=λy h=>by
 obtain rfl:=aR h;rw[abp R];rfl
def LT.XN(R:Rel b6 cQ qt pX){k v}:LT cQ (ab k) (.ret<|qt.put k v) (.ret<|pX.put k v):=LT.ret R
def LT.store(R:Rel b6 cQ qt pX):LT cQ ah (.ret qt) (.ret pX):=LT.ret (v:=.undef) R
def LT.bif{c t u}(h:LT cQ d t u):LT cQ d (bif c then t else .fail) (bif c then u else .fail):=by cases c<;>first|exact LT.fail|exact h
def LT.UW{c b t u}(e:c=true->b=true)(h:LT cQ d t u):LT cQ d (bif c then t else .fail) (bif b then u else .fail):=by
 cases c with
 | false=>exact LT.fail
 | true=>rw[e rfl];exact h
def LT.jL{c t u}(h:LT cQ d t u):LT cQ d (.jL c t) (.jL c u):=λy b=>by
 obtain⟨rfl,e⟩:=cP b;exact h y e
def LT.look{T}{o:Option T}{k b}(h:∀x,LT cQ d (k x) (b x)):LT cQ d (.look o k) (.look o b):=λy c=>by
 obtain⟨x,rfl,e⟩:=cp c;exact h x y e
def LT.node{c t e b f}(h:LT cQ d t b)(k:LT cQ d e f):LT cQ d (.node c t e) (.node c b f):=λy g=>by
 have:=gR g;cases c with
 | true=>exact h y this
 | false=>exact k y this
def LT.bind{α}{t:Tree α}{f g}(h:∀x,t.run=ab x->LT cQ d (f x) (g x)):LT cQ d (t.bind f) (t.bind g):=λy c=>by
 obtain⟨x,b,e⟩:=bind_some c;rw[Tree.run_bind,b];exact h x b y e
def LT.bF(e:Le b6 cQ){k b}(f:b6.mem b=cQ.mem b){val tid buf}{v:Nat->cA} :
  LT cQ (ab k) (b6.bF b val tid buf λc σ=>.ret (σ.put k<|v c)) (cQ.bF b val tid buf λc σ=>.ret (σ.put k<|v c)):=by
 unfold St.bF;rw[<-f];cases g:b6.mem b with
 | none=>exact LT.XN (Rel.ch e)
 | some bx =>
   simp only;cases bx.lk with
   | true=>exact LT.fail
   | false=>exact LT.XN (Rel.ch e)
def LT.mem(c:Le b6 cQ){b}{f g:Option Box->Tree St}(i:f ah=.fail)(h:∀bx,b6.mem b=ab bx->LT cQ d (f<|some bx) (g<|some bx)):LT cQ d (f<|b6.mem b) (g<|cQ.mem b):=by
 cases e:b6.mem b with
 | none=>rw[i];exact LT.fail
 | some bx=>rw[c b bx e];exact h bx e
end
end Go.Ge
namespace Go.Ge
open RowKit
section
variable {b6 cQ:St} {d:Option Nat} {cx:Ctx} {nb:Nat} {bf:List Nat} {inl:Nat->List cA->St->Tree (cA×St)}
def D2(b:Le b6 cQ)(c:∀k,d=ab k->b6.mem (nb+k)=cQ.mem (nb+k)){ty v}:LT cQ d (kp cx nb bf d ty v b6) (kp cx nb bf d ty v cQ):=by
 have R:=Rel.refl b;unfold kp;cases v with
 | undef=>exact LT.bif (LT.ret R)
 | pT =>
   simp only;split
   .rename_i k e _;cases dz bf k with
    | true=>exact LT.bF b (c k rfl)
    | false=>exact LT.XN R
   .exact LT.ret R
 | _=>exact LT.ret R
def UX(e:Le b6 cQ){c a b}:LT cQ d (pU d c a b b6) (pU d c a b cQ):=by
 have R:=Rel.refl e;unfold pU;split
 .split
  .split
   .exact LT.ret R
   .exact LT.fail
  .exact LT.node (LT.ret R) (LT.ret R)
 .exact LT.fail
def UY(c:Le b6 cQ){ty a}:LT cQ d (mF cx d ty a b6) (mF cx d ty a cQ):=by
 have R:=Rel.refl c;unfold mF;cases a with
 | cell u x=>exact LT.bif (LT.ret R)
 | ptr b aV p =>
   ((try dsimp only);split<;>first|exact LT.fail|(rename_i e;rw[(c b) _ e];try dsimp only))
   exact LT.bif (LT.bind λx _=>LT.bif (LT.ret R))
 | _=>exact LT.fail
def MA{qt pX}(R:Rel b6 cQ qt pX){b aV p fit v}:LT cQ ah (storeAt b aV p fit v qt) (storeAt b aV p fit v pX):=by
 unfold storeAt
 ((try dsimp only);split<;>first|exact LT.fail|(rename_i e;rw[(R.le b) _ e];try dsimp only))
 exact LT.bif (LT.bind λx _=>LT.bif (LT.bind λc _=>LT.store (R.trans<|Rel.ch R.le)))
def LT.amu{c t u b e}(h:LT cQ d t u)(f:LT cQ d b e):LT cQ d (bif c then t else b) (bif c then u else e):=by cases c<;>first|exact f|exact h
def XO{qt pX}(R:Rel b6 cQ qt pX){b aV p n v}:LT cQ ah (tO b aV p n v qt) (tO b aV p n v pX):=by
 unfold tO
 ((try dsimp only);split<;>first|exact LT.fail|(rename_i e;rw[(R.le b) _ e];try dsimp only))
 exact LT.bif (LT.bind λx _=>LT.bif (LT.bind λc _=>LT.bif (LT.store<|R.trans<|Rel.ch R.le)))
def Sk(c:Le b6 cQ){bf ty a v}:LT cQ ah (mZ cx bf ty a v b6) (mZ cx bf ty a v cQ):=by
 have R:=Rel.refl c;unfold mZ;cases a with
 | ptr b aV p =>
   ((try dsimp only);split<;>first|exact LT.fail|(rename_i e;rw[(c b) _ e];try dsimp only))
   refine LT.bif (LT.bind λf _=>?_);split
   .refine LT.bif (LT.amu (XO R) ?_);split
    .rename_i y qt g;obtain⟨pX,h,i⟩:=Da c g;rw[h];exact MA i
    .exact LT.fail
   .exact LT.bif (MA R)
 | _=>exact LT.fail
def abq{n lo hi}(b:∀x∈lo.toList++hi.toList,dv b6 x=dv cQ x):bounds b6 n lo hi=bounds cQ n lo hi:=by
 unfold bounds
 grind
def Sl(e:Le b6 cQ){ty x lo hi}(i:∀x∈lo.toList++hi.toList,dv b6 x=dv cQ x):LT cQ d (na cx d ty x lo hi b6) (na cx d ty x lo hi cQ):=by
 have R:=Rel.refl e;have b:∀n,bounds b6 n lo hi=bounds cQ n lo hi:=λn=>abq i;unfold na;split
 .rename_i s _;rw[b]
  ((try dsimp only);split<;>first|exact LT.fail|skip)
  exact LT.jL (LT.ret R)
 .rw[b];refine LT.bif ?_
  ((try dsimp only);split<;>first|exact LT.fail|skip)
  exact LT.jL (LT.ret R)
 .rename_i u c f l n _
  ((try dsimp only);split<;>first|exact LT.fail|(rename_i g;rw[(e c) _ g];try dsimp only))
  refine LT.bif ?_;rw[b]
  ((try dsimp only);split<;>first|exact LT.fail|skip)
  exact LT.jL (LT.ret R)
 .rename_i u c f _
  ((try dsimp only);split<;>first|exact LT.fail|(rename_i g;rw[(e c) _ g];try dsimp only))
  refine LT.bif ?_;split
  .refine LT.bif ?_;split
   .exact LT.ret R
   .rw[b]
    ((try dsimp only);split<;>first|exact LT.fail|skip)
    exact LT.jL (LT.ret R)
  .exact LT.fail
 .rw[b];refine LT.UW (λh=>?_) ?_
  .simp at h⊢;exact⟨rV e h.1,h.2⟩
  ·((try dsimp only);split<;>first|exact LT.fail|skip)
   exact LT.jL (LT.ret R)
 .rename_i m u c f _
  ((try dsimp only);split<;>first|exact LT.fail|(rename_i g;rw[(e c) _ g];try dsimp only))
  refine LT.bif ?_;split
  .rw[b];refine LT.bif ?_
   ((try dsimp only);split<;>first|exact LT.fail|skip)
   exact LT.jL (LT.ret R)
  .exact LT.fail
 .exact LT.fail
def aez(c:Le b6 cQ){b aV i}:∀{m k},LT cQ d (LN d b aV b6 i m k) (LN d b aV cQ i m k):=by
 intro m;induction m with
 | zero=>exact LT.fail
 | succ m e=>exact LT.node (LT.ret<|Rel.refl c) e
def zz(b:Le b6 cQ){ty x i}:LT cQ d (fc cx d ty x i b6) (fc cx d ty x i cQ):=by
 have R:=Rel.refl b;unfold fc;split
 .exact LT.bif (LT.look λ_=>LT.ret R)
 .exact LT.bif (LT.look λ_=>LT.ret R)
 ·((try dsimp only);split<;>first|exact LT.fail|(rename_i c;rw[((λr e=>Mz b e)) _ c];try dsimp only))
  exact LT.bif (LT.jL<|LT.ret R)
 ·((try dsimp only);split<;>first|exact LT.fail|(rename_i c;rw[((λr e=>Mz b e)) _ c];try dsimp only))
  exact LT.bif (LT.jL<|LT.ret R)
 .exact LT.UW (rV b) (LT.jL<|LT.ret R)
 .split
  .refine LT.UW (λh=>?_) (aez b);simp at h⊢;exact⟨h.1,rV b h.2⟩
  .exact LT.fail
 .exact LT.fail
def Sn(b:Le b6 cQ){ty x i}:LT cQ d (nc cx d ty x i b6) (nc cx d ty x i cQ):=by
 unfold nc;split
 .refine LT.UW (λh=>?_) ?_
  .simp at h⊢;exact⟨h.1,rV b h.2⟩
  .split
   .exact LT.bif (LT.ret<|Rel.refl b)
   .exact LT.fail
 .exact zz b
def Sp(b:Le b6 cQ){ty x i}:LT cQ d (nd cx d ty x i b6) (nd cx d ty x i cQ):=by
 have R:=Rel.refl b;unfold nd;split
 .exact LT.look λ_=>LT.ret R
 .exact LT.bif (LT.look λ_=>LT.ret R)
 .exact LT.fail
def HM(b:Le b6 cQ){s x k}:LT cQ d (fD cx d s x k b6) (fD cx d s x k cQ):=by
 have R:=Rel.refl b;unfold fD;split
 .refine LT.bif ?_;split
  .exact LT.ret R
  .exact LT.fail
 .refine LT.UW (rV b) ?_;split
  .split
   .exact LT.ret R
   .exact LT.fail
  .split
   .split
    .exact LT.ret R
    .exact LT.fail
   .exact LT.fail
 .exact LT.fail
def MB(b:Le b6 cQ)(c:∀k,d=ab k->b6.mem (nb+k)=cQ.mem (nb+k)){s t x}:LT cQ d (iJ cx nb d s t x b6) (iJ cx nb d s t x cQ):=by
 have R:=Rel.refl b;unfold iJ;split
 .exact LT.ret R
 .exact LT.ret R
 .split
  .exact LT.jL (LT.bF b<|c _ rfl)
  .exact LT.fail
 ·((try dsimp only);split<;>first|exact LT.fail|(rename_i e;rw[((λr f=>C9 b f)) _ e];try dsimp only))
  exact LT.ret R
 .exact LT.fail
def D3(c:Le b6 cQ)(h:∀k,d=ab k->b6.mem (nb+k)=cQ.mem (nb+k)){ty s x}:LT cQ d (je cx nb d ty s x b6) (je cx nb d ty s x cQ):=by
 unfold je;split
 .rename_i k e _
  ((try dsimp only);split<;>first|exact LT.fail|(rename_i f;rw[((λr (i:_=ab r)=>abo c i)) _ f];try dsimp only))
  split
  .exact LT.jL (LT.bF c<|h _ rfl)
  .rename_i b j;cases f:b6.mem b with
   | none=>exact LT.fail
   | some g =>
     rw[c b g f];cases m:jM e b6 _ with
     | none=>exact LT.fail
     | some l =>
       rw[C9 c m];simp only;cases (g.lk||!ai5 cx ty g.tid) with
       | true=>exact LT.fail
       | false=>exact LT.jL (LT.XN<|Rel.ch c)
  .exact LT.fail
 .exact LT.fail
def abr(c:Le b6 cQ){f args}(h:find cx.con f≠ah):LT cQ d (yK cx B1 d f args b6) (yK cx inl d f args cQ):=by
 unfold yK;split
 .split
  .have key:∀{A vs x},jy b6 A vs=ab x->jy cQ A vs=ab x:=by
    intro A;induction A with
    | pair t r i e =>
      intro vs x b;cases vs with
      | nil=>cases b
      | cons v vs =>
        simp only[jy] at b⊢;split at b
        .rename_i p q j g;rw[Z3 c j,e g];exact b
        .cases b
    | unit=>intro vs x b;cases vs<;>exact b
    | _=>intro vs x b;cases vs<;>cases b
   ((try dsimp only);split<;>first|exact LT.fail|(rename_i g;rw[((λr (k:_=ab r)=>key k)) _ g];try dsimp only))
   exact LT.look λ_=>LT.ret (Rel.refl c)
  .split
   .rename_i x qt l;obtain⟨pX,m,n⟩:=EP c l;rw[m];exact LT.look λ_=>LT.ret n
   .exact LT.fail
 .grind
def LT.Z4{qt pX}(R:Rel b6 cQ qt pX){k b}(e:b6.mem b=cQ.mem b){val tid buf}{v:Nat->cA} :
  LT cQ (ab k) (qt.bF b val tid buf λc σ=>.ret (σ.put k<|v c)) (pX.bF b val tid buf λc σ=>.ret (σ.put k<|v c)):=by
 have f:qt.mem b=pX.mem b:=by
  rw[R.m b];cases h:qt.mem b with
  | some x=>rfl
  | none=>rw[<-e,R.nv b h]
 unfold St.bF;rw[<-f];cases qt.mem b with
 | none=>exact LT.XN (R.trans<|Rel.ch R.le)
 | some g =>
   simp only;cases g.lk with
   | true=>exact LT.fail
   | false=>exact LT.XN (R.trans<|Rel.ch R.le)
def Sq(b:Le b6 cQ)(c:∀k,d=ab k->b6.mem (nb+k)=cQ.mem (nb+k)){e args}:LT cQ d (nf nb e d args b6) (nf nb e d args cQ):=by
 unfold nf;split
 .split
  .rename_i l qt f;obtain⟨pX,g,h⟩:=Da b f;rw[g];exact LT.bif (LT.jL<|LT.Z4 h<|c _ rfl)
  .exact LT.fail
 .exact LT.fail
def abt{qt pX}(h:Le qt pX){e v r}(c:Ad e qt v=ab r):Ad e pX v=ab r:=by
 cases v with
 | part b aV lo n =>
   simp only[Ad] at c⊢;cases f:qt.mem b with
   | none=>rw[f] at c;cases c
   | some g=>rw[f] at c;rw[h b g f];exact c
 | whole b aV =>
   simp only[Ad] at c⊢;cases f:qt.mem b with
   | none=>rw[f] at c;cases c
   | some g=>rw[f] at c;rw[h b g f];exact c
 | _=>cases c
def XP(f:Le b6 cQ){e A res spec args}:LT cQ d (tQ e A res spec d args b6) (tQ e A res spec d args cQ):=by
 unfold tQ;split
 .split
  .rename_i x qt h;obtain⟨pX,i,c⟩:=EP f h;rw[i];simp only;split
   .rename_i b j m l g;rw[abt c.le g];refine LT.look λn=>?_;cases res with
    | true =>
      cases d with
      | none=>exact LT.fail
      | some k=>exact LT.XN (c.trans<|Rel.ch c.le)
    | false=>cases d<;>exact LT.bif (LT.ret<|c.trans<|Rel.ch c.le)
   .exact LT.fail
  .exact LT.fail
 .exact LT.fail
def XQ(b:Le b6 cQ)(h:∀k,d=ab k->b6.mem (nb+k)=cQ.mem (nb+k)){f args}(c:yJ cx bf d f=ah->find cx.con f≠ah\/(find cx.con f=ah/\∃e,find cx.T4 f=ab (.clone e)))(i:∀s,yJ cx bf d f=ab s->(∃e,s=.clone e)\/∃e A r q,s=.own e A r q) :
  LT cQ d (vT cx nb bf B1 d f args b6) (vT cx nb bf inl d f args cQ):=by
 unfold vT;split
 .exact Sq b h
 .exact XP b
 .rename_i m n;have j:yJ cx bf d f=none:=by
   cases o:yJ cx bf d f with
   | none=>rfl
   | some s =>
     simp_all
  rcases c j with g|⟨g,e,l⟩
  .exact abr b g
  .unfold yK;rw[g,l];exact LT.fail
def UZ{s f}(h:yJ cx bf d f=ab s):(∃e,s=.clone e)\/∃e A r q,s=.own e A r q:=by
 unfold yJ at h
 grind
def abu:∀{ps k},(∀x∈ps.map (·.2),dv b6 x=dv cQ x)->BZ b6 k ps=BZ cQ k ps:=by
 intro ps;induction ps with
 | nil=>intro k _;rfl
 | cons p r b =>
   simp only[BZ]
   grind
def U0{fs}:∀{ps v},(∀x∈ps.map (·.2),dv b6 x=dv cQ x)->rI b6 fs v ps=rI cQ fs v ps:=by
 intro ps;induction ps with
 | nil=>intro v _;rfl
 | cons p r b =>
   intro v h;simp only[rI];simp_all
def abv(C:Le b6 cQ){o:Oper}{ge:Option Nat}(hge:rM o cQ=ge)(I:cls cx ge o≠3)(j:∀x∈iK o.op,dv b6 x=dv cQ x)(F:∀k,o.dst=ab k->b6.mem (nb+k)=cQ.mem (nb+k)) :
  LT cQ o.dst (rK cx nb bf B1 o b6) (rK cx nb bf inl o cQ):=by
 have R:=Rel.refl C;unfold rK;cases D:o.op with
 | move x=>simp only[D,iK] at j⊢;rw[j x aY];exact D2 C F
 | assign x=>simp only[D,iK] at j⊢;rw[j x aY];exact D2 C F
 | pick c a b=>simp only[D,iK] at j⊢;rw[j c aY,j a aY,j b aY];exact UX C
 | alloc e =>
   simp only;split
   .rename_i k t E hT;rw[E];unfold wJ;split
    .exact absurd (by simp[cls,D,hT]) I
    .exact LT.bF C (F k E)
   .rename_i k E hT;rw[E];split
    .rename_i V;exact absurd (by simp[cls,D,hT,V]) I
    .exact LT.bif (LT.bF C<|F k E)
   .exact LT.fail
 | box e x =>
   simp only[D,iK] at j⊢;rw[j x aY];cases E:o.dst with
   | none=>exact LT.fail
   | some k =>
     have V:find cx.sO e=none:=by
      cases V:find cx.sO e with
      | none=>rfl
      | some fs=>exact absurd (by simp[cls,D,V]) I
     cases dv cQ x<;>simp only[FD,V]<;>first|exact LT.fail|exact LT.bF C (F k E)
 | build t ps =>
   simp only[D] at j⊢;split
   .split
    .rename_i L;obtain⟨pX,M,K⟩:=O9 C j L;rw[M];exact LT.ret K
    .exact LT.fail
   .split
    .rename_i L;obtain⟨pX,M,K⟩:=Gb C j L;rw[M];exact LT.ret K
    .exact LT.fail
   .split
    .split
     .rw[U0 j];split
      .exact LT.ret R
      .exact LT.ret R
      .exact LT.fail
     .exact LT.fail
    .exact LT.fail
   .exact LT.fail
 | buildSlice t n ps =>
   simp only[D] at j⊢;split
   .split
    .rename_i k W Z;have E:=(EN W).1;rw[E];exact LT.bF C (F k E)
    .refine LT.bif ?_;split
     .rename_i L;obtain⟨pX,M,K⟩:=Gb C j L;rw[M];split
      .rename_i k E;rw[x6 E];exact LT.Z4 K (F k<|x6 E)
      .exact LT.ret K
     .exact LT.fail
   .unfold C3;rw[abu j];split
    .rename_i k e v E _ _;rw[E];exact LT.bif (LT.bF C<|F _ E)
    .exact LT.fail
   .exact LT.fail
 | load t a=>simp only[D,iK] at j⊢;rw[j a aY];exact UY C
 | store t a x =>
   simp only[D,iK] at j⊢;rw[j a aY,j x aY];cases E:o.dst with
   | none=>exact Sk C
   | some k=>exact LT.fail
 | nilCheck x =>
   simp only[D,iK] at j⊢;rw[j x aY];cases dv cQ x with
   | ptr b aV p=>exact LT.UW (rV C) (LT.ret R)
   | cell t x=>exact LT.ret R
   | fn f c=>exact LT.ret R
   | _=>exact LT.fail
 | binOp op xt x y yt =>
   simp only[D,iK] at j⊢;rw[j x aY,j y aY];intro z hz;obtain⟨v,X,h2⟩:=bind_some hz;have F:(ad4 cQ (find cx.T xt) (dz cx.zm xt) op (dv cQ x)<|dv cQ y).run=ab v:=by
    unfold ad4 at X⊢;split at X
    .obtain⟨G,I⟩:=aJ X;simp only[gw] at G;rw[rV C G.1,G.2];exact I
    .obtain⟨G,I⟩:=aJ X;simp at G;rw[rV C G.1,G.2];exact I
    .exact X
   rw[Tree.run_bind,F];exact LT.ret R z h2
 | unOp op t x=>simp only[D,iK] at j⊢;rw[j x aY];exact LT.bind λ_ _=>LT.ret R
 | convert s t x=>simp only[D,iK] at j⊢;rw[j x aY];exact MB C F
 | makeFunc fn first H =>
   simp only[D] at j⊢;cases fn with
   | func f =>
     simp only;have:H.toList.map _=H.toList.map (dv cQ):=Lw λx hx=>j x (JV _ hx);rw[this];split
     .exact LT.ret R
     .exact LT.fail
   | _=>exact LT.fail
 | slice t x lo hi m =>
   simp only[D,iK] at j⊢;cases m with
   | some m=>exact LT.fail
   | none =>
     simp only;rw[j x aY];exact Sl C λy hy=>j y (vi _ hy)
 | fieldAddr s x k=>simp only[D,iK] at j⊢;rw[j x aY];exact HM C
 | field xt x k =>
   simp only[D,iK] at j⊢;rw[j x aY];split
   .refine LT.bif ?_;split
    .exact LT.ret R
    .exact LT.fail
   .exact LT.fail
 | indexAddr t x i =>
   simp only[D,iK] at j⊢;rw[j x aY,j i aY];split
   .cases dz bf 5000000 with
    | true=>exact Sn C
    | false=>exact zz C
   .exact LT.fail
 | index t x i =>
   simp only[D,iK] at j⊢;rw[j x aY,j i aY];split
   .exact Sp C
   .exact LT.fail
 | makeSlice t l c =>
   simp only[D,iK] at j⊢;rw[j l aY,j c aY];cases E:o.dst with
   | none=>exact LT.fail
   | some k =>
     split
     .rename_i k' _ _ _ _ _ hk' _ _ _;obtain rfl:=aR hk';exact LT.jL (LT.jL<|LT.bF C<|F k E)
     .exact LT.fail
 | extract t k =>
   simp only[D,iK] at j⊢;rw[j t aY];split
   ·((try dsimp only);split<;>first|exact LT.fail|skip)
    exact LT.ret R
   .exact LT.fail
 | call c =>
   simp only[D,iK] at j⊢;have S:c.args.toList.map _=c.args.toList.map (dv cQ):=Lw λx hx=>j x (JV _ hx);unfold wR;rw[S];cases G:c.callee with
   | builtin b =>
     simp only;split
     .rename_i x t _ _;cases ZW _ x with
      | true =>
        ((try dsimp only);split<;>first|exact LT.fail|(rename_i hq;rw[((λr (hr:_=ab r)=>aey C hr)) _ hq];try dsimp only))
        exact LT.ret R
      | false =>
        simp;split
        .refine LT.UW (λh=>?_) (LT.ret R);simp at h⊢;exact⟨rV C h.1,h.2⟩
        .exact LT.fail
     .split
      .exact D3 C F
      .exact D3 C F
      .exact LT.fail
     .exact absurd (by simp[cls,D,G]) I
     .exact absurd (by simp[cls,D,G]) I
     .exact LT.bind λ_ _=>LT.ret R
     .exact LT.bind λ_ _=>LT.ret R
     .exact LT.fail
   | value f =>
     simp only;rw[j f<|by rw[G];simp];split
     .rename_i g H j;have U:(H.all λb=>live b6 b.1 b.2)=true->_=true:=λh=>by
       rw[vR] at h⊢;exact λb hm=>rV C (h b hm)
      refine LT.UW U (XQ C F (λhq=>?_) λs hs=>UZ hs);have Y:ge=ab g:=by rw[<-hge];simp[rM,D,G,j]
      cases O:find cx.con g with
      | some c=>exact .inl aY
      | none =>
        refine .inr ⟨rfl,?_⟩;cases J:find cx.T4 g with
        | none=>exact absurd (by simp[cls,D,G,Y,O,J]) I
        | some s =>
          cases s with
          | clone e=>exact⟨e,rfl⟩
          | own e A r q=>simp[yJ,J] at hq
          | _=>exact absurd (by simp[cls,D,G,Y,O,J]) I
     .exact LT.fail
   | invoke r m =>
     simp only;rw[j r<|by rw[G];simp];unfold ti;split
     .split
      .rename_i L;obtain⟨pX,M,K⟩:=EP C L;rw[M];exact LT.look λ_=>LT.ret K
      .exact LT.fail
     .exact LT.fail
 | makeInterface u x =>
   simp only[D,iK] at j⊢;rw[j x aY];unfold tg;split
   .split
    .split
     .rename_i L;obtain⟨pX,M,K⟩:=Da C L;rw[M];exact LT.ret K
     .exact LT.fail
    .exact LT.fail
   .exact LT.fail
 | _=>exact LT.fail
end
end Go.Ge
namespace Go.Ge
open RowKit
def pY{l t}:dz l t=true↔t∈l:=by
 induction l with
 | nil=>simp[dz]
 | cons i r b =>
   simp only[dz,BS,ld,b];constructor
   .rintro(h|h)
    .exact .inl (ja h)
    .exact .inr h
   .rintro(h|h)
    .subst h;exact .inl aY
    .exact .inr h
def ks{l t}:dz l t=false↔t∉l:=by
 rw[<-pY];simp
def XR{l}{t:Nat}(h:Operand.tmp t∈l):t∈tmpsOf l:=by
 induction l with
 | nil=>cases h
 | cons x r c =>
   rcases ld.1 h with b|b
   .subst b;exact pL ..
   .clear h;have h:=b;cases x<;>simp only[tmpsOf]
    case tmp k=>exact vi _ (c h)
    all_goals exact c h
section
variable {cx:Ctx} {nb:Nat} {bf:List Nat} {inl:Nat->List cA->St->Tree (cA×St)} {σ ba τ:St}
structure U1 (cx:Ctx) (nb:Nat) (o:Oper) (fp:Fp):Prop where
 own:∀k,o.dst=ab k->nb+k∈fp.rd
 sub:∀b∈fp.wr,b∈fp.rd
 w1:cls cx fp.fn o≠0->∀k,o.dst=ab k->nb+k∈fp.wr
 w2:cls cx fp.fn o≠0->cls cx fp.fn o≠1->∀b∈fp.rd,b∈fp.wr
 c3:cls cx fp.fn o≠3
def K0 o σ (h:(B0 cx nb o σ).KT=false):U1 cx nb o (B0 cx nb o σ):=by
 have c:∀k,o.dst=ab k->nb+k∈Go.Ge.own nb o:=λk e=>by simp[Go.Ge.own,e]
 unfold B0 at h⊢;dsimp only at h⊢;split at h<;>rename_i g
 .exact⟨λk e=>DF _ (c k e),λb f=>(nomatch f),λi=>absurd g i,λi=>absurd g i,by rw[g];decide⟩
 .exact⟨λk e=>DF _ (c k e),λb f=>DF _ f,λ_ k e=>c k e,λ_ j=>absurd g j,by rw[g];decide⟩
 .exact⟨λk e=>DF _ (c k e),λb f=>f,λ_ k e=>DF _ (c k e),λ_ _ b f=>f,by rw[g];decide⟩
 .cases h
def ahd{ts rd}:Le { (σ.only ts rd) with br:=σ.br } σ:=λb f c=>by
 simp only[St.only] at c;cases e:dz rd b with
 | true=>rw[e] at c;exact c
 | false=>rw[e] at c;cases c
def U2{ts rd}:Le (σ.only ts rd) σ:=λb c e=>ahd (ts:=ts) b c e
def U3{l rd x}(b:x∈l):dv (σ.only (tmpsOf l) rd) x=dv σ x:=by
 cases x with
 | tmp t =>
   have:=pY.2 (XR b);simp only[dv,St.only,this,z6]
 | _=>rfl
def ahe{a b}(h:akq a b=true):a=b:=by
 cases a<;>cases b<;>first|rfl|cases h|exact congrArg ab (ja h)
def Pb o rd:rM o (σ.only (tmpsOf<|iK o.op) rd)=rM o σ:=by
 unfold rM;split
 .rename_i c b;split
  .rename_i x e;rw[U3<|by rw[b];simp[iK,e]]
  .rfl
 .rfl
def Db{fp o}(f:fp.KT=false->U1 cx nb o fp)(i:(jA cx nb bf inl fp o σ).run=ab ba):(rK cx nb bf inl o σ).run=ab ba:=by
 unfold jA at i;cases c:fp.KT with
 | true=>rw[c] at i;exact i
 | false =>
   have f:=f c;rw[c] at i;obtain⟨τ,g,u⟩:=bind_some i;obtain rfl:=aR u;obtain⟨e,g⟩:=aJ g;have e:=ahe e;have v:=abv (inl:=inl) U2 (by rw[<-e];exact(Pb ..).symm) f.c3 (λx y=>U3 y)
    (λk n=>by simp only[St.only,pY.2 (f.own k n),z6]) τ g
   rw[v];have hC:=XL e f.c3 (λq k n=>f.w1 q k n) (λq g b r=>by
    refine f.w2 q g b ?_;simp only[St.only] at r;cases j:dz fp.rd b with
    | true=>exact pY.1 j
    | false=>rw[j] at r;exact absurd rfl r) τ g
   have j:(λb=>match τ.mem b with|some x=>ab x|none=>σ.mem b)=λb=>bif dz fp.wr b then τ.mem b else σ.mem b:=by
    funext b;have s:b∈fp.rd->(σ.only (tmpsOf<|iK o.op) fp.rd).mem b=σ.mem b:=λh=>by simp only[St.only,pY.2 h,z6]
    cases t:dz fp.wr b with
    | true =>
      simp;cases l:τ.mem b with
      | some x=>rfl
      | none =>
        rw[<-s (f.sub b<|pY.1 t)];rcases hC b with k|k
        .rw[<-k,l]
        .exact absurd l k.1
    | false =>
      rcases hC b with k|k
      .rw[k];cases l:(σ.only _ fp.rd).mem b with
       | none=>rfl
       | some x=>exact(U2 b x l).symm
      .exact absurd k.2 (ks.1 t)
   exact congrArg (λm=>ab _) j
def Dc{a b}(h:aa7 a b=true){x}(c:x∈a):x∉b:=by
 simp only[aa7,vR,zh] at h;exact ks.1 (h x c)
def apart_spec{x y f g}(h:apart x y f g=true):f.KT=false/\g.KT=false/\(∀b∈f.wr,b∉g.rd)/\(∀b∈g.wr,b∉f.rd) /\
  (∀d,x.dst=ab d->d∉tmpsOf (iK y.op))/\(∀d,y.dst=ab d->d∉tmpsOf (iK x.op))/\(∀d e,x.dst=ab d->y.dst=ab e->d≠e):=by
 simp only[apart,gw,zh] at h;obtain⟨⟨⟨⟨⟨l,m⟩,n⟩,o⟩,c⟩,j⟩:=h;refine⟨l,m,λb k=>Dc n k,λb k=>Dc o k,λd i=>?_,λd i=>?_,λd e i r=>?_⟩
 .rw[i] at c;simp at c;exact ks.1 c.1
 .rw[i] at j;simp at j;exact ks.1 j
 .rw[i,r] at c;intro q;subst q;simp at c
def Gc{d wr ts rd}(f:∀k,d=ab k->k∉ts)(g:∀b∈wr,b∉rd):(lay σ d wr τ).only ts rd=σ.only ts rd:=by
 unfold St.only lay
 congr 1
 .funext t;cases c:dz ts t with
  | false=>rfl
  | true =>
    cases d with
    | none=>rfl
    | some k =>
      have:t≠k:=λe=>f k rfl (by rw[<-e];exact pY.1 c);simp[kr this]
 .funext b;cases c:dz rd b with
  | false=>rfl
  | true =>
    have:=λh=>g b h (pY.1 c);simp[ks.2 this]
def aeA{h g f i b6 cQ}(j:apart h g f i=true)(l:∀b∈f.wr,b∈f.rd)(m:(jA cx nb bf inl f h σ).run=ab b6)(n:(jA cx nb bf inl i g b6).run=ab cQ) :
  ∃c,(jA cx nb bf inl i g σ).run=ab c/\(jA cx nb bf inl f h c).run=ab cQ:=by
 obtain⟨x,y,z,u,A,C,D⟩:=apart_spec j;unfold jA at m n⊢;simp only[x,y,FA] at m n⊢;obtain⟨E,F,G⟩:=bind_some m;obtain rfl:=aR G;obtain⟨o,v,H⟩:=bind_some n;obtain rfl:=aR H;rw[Gc A z] at v;refine⟨lay σ g.dst i.wr o,by rw[Tree.run_bind,v];rfl,?_⟩;rw[Gc C u,Tree.run_bind,F];show ab _=ab _
 congr 1
 unfold lay
 congr 1
 .cases hi:h.dst with
  | none=>rfl
  | some k =>
    cases I:g.dst with
    | none=>rfl
    | some e =>
      have q:=D k e hi I;funext t;by_cases r:t=k
      .subst r;simp[kr q]
      .by_cases K:t=e
       .simp[kr r]
       .simp[kr r]
 .funext b;dsimp only;cases s:dz f.wr b with
  | false=>rfl
  | true =>
    have:=λJ=>u b J (l b<|pY.1 s);simp[ks.2 this]
inductive Reach (ops:Array Oper):Nat->Nat->Prop where
 | step {i:Nat} {o:Oper} {e:Edge} (h:ops[i]?=ab o) (he:e∈o.after) (hb:Region.binds .any e=true):Reach ops i e.on
 | more {i k:Nat} {o:Oper} {e:Edge} (h:ops[i]?=ab o) (he:e∈o.after) (hb:Region.binds .any e=true) (r:Reach ops e.on k):Reach ops i k
def Sr(c:Array Oper)(b:Array Bool):Prop:=∀i o e,b.getD i false=true->c[i]?=ab o->e∈o.after->Region.binds .any e=true->b.getD e.on false=true
def Reach.listed{ops listed}(f:Sr ops listed){i k}(h:Reach ops i k):listed.getD i false=true->listed.getD k false=true:=by
 induction h with
 | step h b c=>exact λe=>f _ _ _ e h b c
 | more h b c r g=>exact λe=>g (f _ _ _ e h b c)
def Reach.ready{ops listed}(g:Sr ops listed){i k}(h:Reach ops i k)(j:i∈Region.ready .any ops listed):listed.getD k false=true:=by
 obtain⟨_,o,f,b⟩:=mem_ready.1 j;cases h with
 | step h c e =>
   obtain rfl:=aR (f.symm.trans h);exact b _ c e
 | more h c e r =>
   obtain rfl:=aR (f.symm.trans h);exact r.listed g (b _ c e)
def Sr.list{ops listed}(r:Sr ops listed){i}(s:i∈Region.ready .any ops listed):Sr ops (listed.setIfInBounds i true):=by
 obtain⟨_,t,c,b⟩:=mem_ready.1 s;have up:∀k,listed.getD k false=true->(listed.setIfInBounds i true).getD k false=true:=by
  intro k g;by_cases e:i=k
  .subst e;rcases vS i listed.size with f|f
   .simp[f]
   .simp[T8 f] at g
  .rw[getD_set_ne false e];exact g
 intro j o e h l m n;by_cases q:i=j
 .subst q;obtain rfl:=aR (c.symm.trans l);exact up _ (b e m n)
 .rw[getD_set_ne false q] at h;exact up _ (r j o e h l m n)
def U4{b:Array Bool}{i}(f:b.getD i true=false)(c:b.getD i false=true):False:=by
 rcases vS i b.size with e|e
 .simp[e] at f c;rw[f] at c;cases c
 .simp[T8 e] at c
def tV(e:Array Oper)(c:List Ut):Prop:=∀k,∀b,Nat.testBit (maskAt c k) b=true->Reach e k b
def ER{ops done}(n:tV ops done){i o}(k:ops[i]?=ab o){b}(h:Nat.testBit (mask done o) b=true):Reach ops i b:=by
 have key:∀l,(∀e∈l,e∈o.after)->Nat.testBit (wK done l) b=true->Reach ops i b:=by
  intro l;induction l with
  | nil=>intro _ h;simp[wK] at h
  | cons e r m =>
    intro f h;simp only[wK] at h;cases g:Region.binds .any e with
    | false=>rw[g] at h;exact m (λj c=>f j (vi _ c)) h
    | true =>
      rw[g] at h;simp at h;rcases h with (h|h)|h
      .exact m (λj c=>f j (vi _ c)) h
      .rw[Nat.testBit_two_pow] at h;have:e.on=b:=by simpa using h
       subst this;exact .step k (f e<|pL ..) g
      .exact .more k (f e<|pL ..) g (n _ _ h)
 exact key _ (λe q=>by simpa using q) h
def tV.nil{ops}:tV ops []:=λk b h=>by simp[maskAt] at h
def tV.cons{ops done}(e:tV ops done){i o f}(g:ops[i]?=ab o):tV ops ((i,o,f,mask done o)::done):=by
 intro k b h;simp only[maskAt] at h;cases c:Nat.beq i k with
 | true =>
   rw[c] at h;obtain rfl:=ja c;exact ER e g h
 | false=>rw[c] at h;exact e k b h
def aeB(c:Ctx)(e:Nat)(f:List Nat)(inl:Nat->List cA->St->Tree (cA×St))(b:Array Oper)(g:Nat->Fp)(Q:St->Prop):Nat->Array Bool->St->Prop
 | 0,listed,σ=>Region.ready .any b listed=[]/\Q σ
 | n+1,listed,σ=>(Region.ready .any b listed=[]->Q σ) /\
  ∀i∈Region.ready .any b listed,∃o ba,b[i]?=ab o/\o.guard=ah/\(jA c e f inl (g i) o σ).run=ab ba/\aeB c e f inl b g Q n (listed.setIfInBounds i true) ba
variable {ops:Array Oper} {fp:Nat->Fp} {Q:St->Prop}
def XS{i o}(E:ops[i]?=ab o)(u:o.guard=ah)(v:∀b∈(fp i).wr,b∈(fp i).rd):∀n c σ b6,
  Sr ops c->(∀j s,ops[j]?=ab s->j≠i->c.getD j true=false->Reach ops j i\/apart o s (fp i) (fp j)=true) ->
  i∈Region.ready .any ops c->(jA cx nb bf inl (fp i) o σ).run=ab b6->aeB cx nb bf inl ops fp Q n (c.setIfInBounds i true) b6->aeB cx nb bf inl ops fp Q (n+1) c σ:=by
 intro n;induction n with
 | zero =>
   intro c σ b6 f g q A H;refine⟨λh=>(by rw[h] at q;cases q),λj t=>?_⟩;by_cases e:j=i
   .subst e;exact⟨o,b6,E,u,A,H⟩
   .have:=ready_mono t e;rw[H.1] at this;cases this
 | succ n I =>
   intro c σ b6 f g q A H;refine⟨λh=>(by rw[h] at q;cases q),λj t=>?_⟩;by_cases e:j=i
   .subst e;exact⟨o,b6,E,u,A,H⟩
   .obtain⟨s,cQ,x,C,J,K⟩:=H.2 j (ready_mono t e);obtain⟨l,L,F,G⟩:=mem_ready.1 t;have r:apart o s (fp i) (fp j)=true:=by
     rcases g j s x e l with M|r
     .exact(U4 (mem_ready.1 q).1<|M.ready f t).elim
     .exact r
    obtain⟨m,O,R⟩:=aeA r v A J;refine⟨s,m,x,C,O,I _ m cQ (f.list t) (λk S T D y=>g k S T D ?_) (ready_mono q<|LI e) R ?_⟩
    .by_cases z:j=k
     .subst z;exact l
     .rw[getD_set_ne true z] at y;exact y
    .rw[aiF _ _ e];exact K
end
end Go.Ge
namespace Go.Ge
open RowKit
section
variable {P:Program} {B:BI} {N:Nat} {γ:Gh} {cx:Ctx} {nb:Nat} {bf:List Nat} {inl:Nat->List cA->St->Tree (cA×St)} {σ ba τ:St} {ops:Array Oper} {fp:Nat->Fp}
def ahf(f:Ctx)(g:Nat)(h:List Nat)(inl:Nat->List cA->St->Tree (cA×St))(c:Array Oper)(b:Nat->Fp):Nat->List Oper->St->St->Prop
 | _,[],σ,ba=>σ=ba
 | k,o::l,σ,ba=>o.guard=ah/\((b k).KT=false->U1 f g o (b k))/\((b k).KT=true->(b k).wr=[])/\(∀e∈o.after,Region.binds .any e=true->e.on<k) /\
  (∀j i,l[j]?=ab i->Reach c (k+1+j) k\/apart o i (b k) (b<|k+1+j)=true) /\
  ∃b6,(jA f g h inl (b k) o σ).run=ab b6/\ahf f g h inl c b (k+1) l b6 ba
def MC{o f b k m mk ok r}(h:loose o f m ((k,ok,b,mk)::r)=true):(Nat.testBit m k=true\/apart ok o b f=true)/\loose o f m r=true:=by
 simp only[loose,gw,BS] at h;exact h
def aeC o σ (h:(B0 cx nb o σ).KT=true):(B0 cx nb o σ).wr=[]:=by
 unfold B0 at h⊢;dsimp only at h⊢;split at h<;>first|cases h|skip
 rfl
def Ss:∀l k c σ,(∀j o,l[j]?=ab o->ops[k+j]?=ab o)->tV ops c->(LP cx nb bf inl (number k l) c σ).run=ab ba ->
  ∃n:List (Fp×Nat),n.length=l.length/\(∀j m b,n[j]?=ab m->Nat.testBit m.2 b=true->Reach ops (k+j) b) /\
   ∀fp,(∀j f,n[j]?=ab f->fp (k+j)=f.1)->ahf cx nb bf inl ops fp k l σ ba/\∀j o f,l[j]?=ab o->n[j]?=ab f->loose o (fp<|k+j) f.2 c=true:=by
 intro l;induction l with
 | nil =>
   intro k c σ _ _ h;exact⟨[],rfl,λj m b h=>absurd h aY,λfp _=>⟨aR h,λj o f g=>absurd g aY⟩⟩
 | cons o l E =>
   intro k c σ x y h;simp only[number,LP] at h;split at h
   .cases h
   .rename_i F;obtain⟨u,G⟩:=aJ h;obtain⟨b6,H,I⟩:=bind_some G;simp only[gw] at u;have z:=x 0 o rfl;obtain⟨n,A,C,J⟩:=E _ _ b6 (λj v g=>by have:=x (j+1) v (by simpa using g);rw[<-this];congr 1;omega) (y.cons z) I;refine⟨(B0 cx nb o σ,mask c o)::n,by simp[A],λj m b g i=>?_,λfp r=>?_⟩
    .cases j with
     | zero=>obtain rfl:=aR g;exact ER y z i
     | succ j=>have:=C j m b (by simpa using g) i;rw[show k+_=k+1+j by omega];exact this
    have s:fp k=B0 cx nb o σ:=r 0 _ rfl;obtain⟨K,D⟩:=J fp λj f g=>by have:=r (j+1) f (by simpa using g);rw[<-this];congr 1;omega
    refine⟨⟨F,λi=>by rw[s] at i⊢;exact K0 o σ i,λi=>by rw[s] at i⊢;exact aeC o σ i,λe L i=>?_,λj M g=>?_,b6,by rw[s];exact H,K⟩,λj v f g t=>?_⟩
    .have:=u.2;rw[<-Array.all_toList,vR] at this;have:=this e (by simpa using L);rw[i] at this;have:=JU (by simpa [Nat.blt] using this);omega
    .obtain⟨f,t⟩:∃f,n[j]?=ab f:=⟨_,ia (by rw[A];exact(ib.1 g).1)⟩;rcases(MC<|D j M f g t).1 with q|q
     .exact .inl (C j f k t q)
     .rw[s];exact .inr q
    .cases j with
     | zero =>
       obtain rfl:=aR g;obtain rfl:=aR t;rw[FB,s];exact u.1
     | succ j =>
       have:=(MC<|D j v f (by simpa using g)<|by simpa using t).2;rw[show k+_=k+1+j by omega];exact this
def aeD:∀l k c σ,(∀j,l[j]?=ops[k+j]?)->c.size=ops.size->(∀j,j<k->j<ops.size->c.getD j false=true) ->
  (∀j,k<=j->j<ops.size->c.getD j true=false)->Sr ops c->ahf cx nb bf inl ops fp k l σ ba->aeB cx nb bf inl ops fp (·=ba) l.length c σ:=by
 intro l;induction l with
 | nil =>
   intro k c σ x y z E f h;refine⟨?_,h⟩;cases J:Region.ready .any ops c with
   | nil=>rfl
   | cons i r =>
     obtain⟨F,o,I,_⟩:=mem_ready.1 (by rw[J];exact pL ..);have n:=(zf.1 I).1;rcases vS i k with v|v
     .have:=z i v n;simp[y,n] at this F;rw[this] at F;cases F
     .have:=x (i-k);rw[show k+_=i by omega,I] at this;cases this
 | cons o l K =>
   intro k c σ x y z E f h;have v:ops[k]?=ab o:=by simpa using(x 0).symm
   have n:=(zf.1 v).1;obtain⟨L,M,G,O,R,b6,S,T⟩:=h;have g:=mem_ready.2 ⟨E k (cq _) n,o,v,λe U A=>by
    have:=O e U A;exact z e.on this ai⟩
   refine XS v L (λb A=>?_) l.length c σ b6 f (λj V D W t=>?_) g S (K _ _ b6 (λj=>?_) (by simp[y]) (λj D u=>?_) (λj D u=>?_) (f.list g) T)
   .cases q:(fp k).KT with
    | true=>rw[G q] at A;cases A
    | false=>exact(M q).sub b A
   .have s:=(zf.1 D).1;rcases vS j k with C|C
    .exfalso;have:=z j C s;simp[y,s] at this t;rw[this] at t;cases t
    .have H:=x (j-k);rw[show k+_=j by omega,D] at H;obtain⟨m,X⟩:∃m,j-k=m+1:=⟨j-k-1,ai⟩;rw[X] at H;have:=R m V (by simpa using H);rw[show k+1+m=j by omega] at this;exact this
   .have:=x (j+1);rw[show k+1+j=k+(j+1) by omega,<-this];simp
   .by_cases e:j=k
    .subst e;simp[y,n]
    .rw[getD_set_ne false<|LI e];exact z j ai u
   .rw[getD_set_ne true (by omega:k≠j)];exact E j ai u
def MD:∀{l k j o},l[j]?=ab o->(k+j,o)∈number k l:=by
 intro l;induction l with
 | nil=>intro k j o h;cases h
 | cons p l b =>
   intro k j o h;cases j with
   | zero=>obtain rfl:=aR h;exact pL ..
   | succ j=>exact vi _ (by rw[show k+(j+1)=k+1+j by omega];exact b (by simpa using h))
def ME{d}:∀{items},oM d items=false->∀{i o},(i,o)∈items->o.dst≠ab d:=λh _ _ b=>XE h _ _ b
def Pc(z:fX P cx)(f:rb P B.G cx)(g:x4 P B.G inl){Q}(r:∀i o,ops[i]?=ab o->(fp i).KT=false->U1 cx nb o (fp i))
  (A:∀o∈ops.toList,∀k,o.dst=ab k->k<N):∀n b σ γ a w,aeB cx nb bf inl ops fp (·=ba) n b σ->dK B N γ σ a w ->
   (∀bK s w',dK B N bK ba s w'->Ext B γ σ.mem w bK ba.mem w'->Fr (number 0 ops.toList) a s->Q .normal s w')->wpAny P .any ops Q n b a w:=by
 intro n;induction n with
 | zero =>
   intro b σ γ a w h m q;obtain⟨e,rfl⟩:=h;exact⟨e,q γ a w m (Ext.refl _ _ _ _) λt _=>rfl⟩
 | succ n C =>
   intro b σ γ a w h m q;refine⟨λD=>?_,λi E=>?_⟩
   .obtain rfl:=h.1 D;exact q γ a w m (Ext.refl _ _ _ _) λt _=>rfl
   .obtain⟨o,b6,e,F,H,I⟩:=h.2 i E;have j:o∈ops.toList:=by
     have:=adz e;simpa using this
    have c:(i,o)∈number 0 ops.toList:=by
     have:=MD (l:=ops.toList) (k:=0) (by simpa using e);simpa using this
    unfold wpOp;rw[e];dsimp only;have J:Region.wanted o (yielded ops a.tmps)=true:=by unfold Region.wanted;rw[F]
    rw[J];refine .inl (Mo z f g m (A o j) (Db (r i o e) H) λu v K L M=>?_);refine C _ b6 u _ K I L λx O R S T U=>q x O R S (M.trans T) λt y=>?_;rw[U t y,gx (ME y c)]
def dK.draw{a w}(h:dK B N γ σ a w) n:dK B N γ σ a { w with drawn:=n }/\Ext B γ σ.mem w γ σ.mem { w with drawn:=n }:=by
 obtain⟨m1,c⟩:=h.ok.far (w':={ w with drawn:=n }) (I':=γ.I) ⟨rfl,rfl,rfl,cq _,λ_ _=>rfl⟩ (λ_ _ k=>k) (λb o k=>h.ok.vG b o k) (λb o k e=>absurd k e);exact⟨h.go c m1,c⟩
def Su(c:P.follows .mixedOrders=true)(u:fX P cx)(g:rb P B.G cx)(m:x4 P B.G inl){Q id a w}
  (v:∀o∈ops.toList,∀k,o.dst=ab k->k<N) (y:(LP cx nb bf inl (number 0 ops.toList) [] σ).run=ab ba) (h:dK B N γ σ a w)
  (z:∀bK n w',dK B N bK ba n w'->Ext B γ σ.mem w bK ba.mem w'->Fr (number 0 ops.toList) a n->Q .normal n w'):(Code.region id ops true).wp P Q a w:=by
 refine wp_region_any c ?_;obtain⟨A,M,O,C⟩:=Ss ops.toList 0 [] σ (λj o b=>by simpa using b) tV.nil y
 let fp:Nat->Fp:=λi=>(A[i]?.map (·.1)).getD ⟨[],[],true,ah⟩
 obtain⟨r,_⟩:=C fp λj f b=>by simp[fp,b]
 have key:∀l k σ,ahf cx nb bf inl ops fp k l σ ba->∀j o,l[j]?=ab o->(fp<|k+j).KT=false->U1 cx nb o (fp<|k+j):=by
  intro l;induction l with
  | nil=>intro k σ _ j o b;cases b
  | cons o l D =>
    intro k σ E j F b;obtain⟨R,H,I,S,T,b6,U,J⟩:=E;cases j with
    | zero=>obtain rfl:=aR b;exact H
    | succ j=>rw[show k+_=k+1+j by omega];exact D _ b6 J j F (by simpa using b)
 have hA:=aeD (ba:=ba) ops.toList 0 (Array.replicate ops.size false) σ aY aY (λj b=>ai)
  (λj _ b=>by simp[b]) (λi o e q=>by
   rcases vS i ops.size with t|t<;>simp[t] at q) r
 obtain⟨K,L⟩:=h.draw _;refine Pc u g m (λi o q=>by have:=key _ 0 σ r i o (by simpa using q);simpa using this) v _ _ σ γ a _ (by simpa using hA) K λbK n w' s x f=>z bK n w' s (L.trans x) f
end
end Go.Ge
namespace Go.Ge
open RowKit
section
variable {cx:Ctx} {nb:Nat} {bf:List Nat} {inl:Nat->List cA->St->Tree (cA×St)} {ops:Array Oper} {fp:Nat->Fp}
abbrev Gst:=St×(Nat->Bool)
def ES(b:Array Oper)(o:Oper)(s:Gst):Option Bool:=match o.guard with
 | none=>ab true
 | some (g,want)=>match(b[g]?).bind (·.dst) with
   | none=>ah
   | some dg=>bif s.2 g then ab false else match s.1.br dg with
     | .data .bool c=>ab ((show Bool from c)==want)
     | _=>ah
def pJ(c:Ctx)(e:Nat)(g:List Nat)(inl:Nat->List cA->St->Tree (cA×St))(b:Array Oper)(f:Fp)(i:Nat)(o:Oper)(s:Gst):Option Gst:=match ES b o s with
 | none=>ah
 | some true=>(jA c e g inl f o s.1).run.map λσ=>(σ,s.2)
 | some false=>ab (s.1.bD o.dst .undef,kJ i s.2)
def akM:St:={ br:=λ_=>.undef,mem:=λ_=>ah }
def U5 σ d:σ.bD d .undef=lay σ d [] akM:=by
 cases d with
 | none=>rfl
 | some k=>rfl
def Qy{f i o s l}(m:f.KT=false)(h:pJ cx nb bf inl ops f i o s=ab l):∃b e τ,ES ops o s=ab b/\l=(lay s.1 o.dst e τ,bif b then s.2 else kJ i s.2)/\(∀x∈e,x∈f.wr) /\
  ∀c,ES ops o c=ab b->(b=true->c.1.only (tmpsOf<|iK o.op) f.rd=s.1.only (tmpsOf<|iK o.op) f.rd)->pJ cx nb bf inl ops f i o c=ab (lay c.1 o.dst e τ,bif b then c.2 else kJ i c.2):=by
 unfold pJ at h;cases hd:ES ops o s with
 | none=>rw[hd] at h;cases h
 | some b =>
   rw[hd] at h;cases b with
   | true =>
     obtain⟨ba,g,rfl⟩:=EA.1 h;unfold jA at g;rw[m] at g;obtain⟨τ,n,q⟩:=bind_some g;obtain rfl:=aR q;refine⟨true,f.wr,τ,rfl,rfl,λx j=>j,λc k r=>?_⟩;unfold pJ;rw[k];simp only;unfold jA;rw[m];simp;rw[Tree.run_bind,r rfl,n];rfl
   | false =>
     obtain rfl:=aR h;refine⟨false,[],akM,rfl,by rw[U5];rfl,λx j=>(nomatch j),λc k _=>?_⟩;unfold pJ;rw[k];rw[U5];rfl
def U6{i j x y f g}(h:B2 ops i j x y f g=true):f.KT=false/\g.KT=false/\(∀b∈f.wr,b∉g.rd)/\(∀b∈g.wr,b∉f.rd)/\zq x j=true/\zq y i=true /\
  (∀d,x.dst=ab d->d∉EE ops y)/\(∀d,y.dst=ab d->d∉EE ops x)/\(∀d e,x.dst=ab d->y.dst=ab e->d≠e):=by
 simp only[B2,gw,zh] at h;obtain⟨⟨⟨⟨⟨⟨⟨n,o⟩,r⟩,s⟩,t⟩,u⟩,c⟩,l⟩:=h;refine⟨n,o,λb m=>Dc r m,λb m=>Dc s m,t,u,λd k=>?_,λd k=>?_,λd e k v=>?_⟩
 .rw[k] at c;simp at c;exact ks.1 c.1
 .rw[k] at l;simp at l;exact ks.1 l
 .rw[k,v] at c;intro q;subst q;simp at c
def MF{i o s d wr τ b}(f:zq o i=true)(n:∀k,d=ab k->k∉EE ops o):ES ops o (lay s.1 d wr τ,bif b then s.2 else kJ i s.2)=ES ops o s:=by
 unfold ES;cases c:o.guard with
 | none=>rfl
 | some p =>
   obtain⟨g,m⟩:=p;dsimp only;cases h:(ops[g]?).bind _ with
   | none=>rfl
   | some dg =>
     dsimp only;have j:Nat.beq g i=false:=by
      unfold zq at f;rw[c] at f;simpa using f
     have q:(bif b then s.2 else kJ i s.2) g=s.2 g:=by
      cases b with
      | true=>rfl
      | false=>simp only[FA,kJ,j,LF]
     have r:(lay s.1 d wr τ).br dg=s.1.br dg:=by
      unfold lay;cases d with
      | none=>rfl
      | some k =>
        have l:dg≠k:=λe=>n k rfl (by
         unfold EE Qq;rw[c];dsimp only;rw[h];subst e;exact pL ..)
        simp[kr l]
     rw[q,r]
def aeE σ {g h i j c f} (hd:∀d e,g=ab d->h=ab e->d≠e) (o:∀b∈i,b∉j):lay (lay σ h j f) g i c=lay (lay σ g i c) h j f:=by
 unfold lay
 congr 1
 .cases g with
  | none=>rfl
  | some k =>
    cases h with
    | none=>rfl
    | some e =>
      have l:=hd k e rfl rfl;funext t;by_cases m:t=k
      .subst m;simp[kr l]
      .by_cases q:t=e
       .simp[kr m]
       .simp[kr m]
 .funext b;dsimp only;cases n:dz i b with
  | false=>rfl
  | true =>
    have:=o b (pY.1 n);simp[ks.2 this]
def XT{i j g l c m s s1 s2}(n:B2 ops i j g l c m=true)(q:∀b∈c.wr,b∈c.rd)(D:pJ cx nb bf inl ops c i g s=ab s1)(E:pJ cx nb bf inl ops m j l s1=ab s2) :
  ∃e,pJ cx nb bf inl ops m j l s=ab e/\pJ cx nb bf inl ops c i g e=ab s2:=by
 obtain⟨F,G,H,u,I,J,v,x,K⟩:=U6 n;obtain⟨L,Y,M,O,R,y,S⟩:=Qy F D;subst R;obtain⟨T,Z,U,z,V,A,W⟩:=Qy G E;subst V;rw[MF J v] at z;have C:∀{o k},k∉EE ops o->k∉tmpsOf _:=λh X=>h (JV _ X);refine⟨_,(W s z λ_=>(Gc (λk r=>C (v k r)) λb f=>H b (y b f)).symm),?_⟩;rw[(S _ (by rw[MF I x];exact O) λ_=>Gc (λk r=>C (x k r)) λb f=>u b (A b f))]
 congr 1
 refine Prod.ext (aeE s.1 K λb f t=>u b (A b t) (q b<|y b f)) ?_
 .dsimp only;cases L<;>cases T<;>first|rfl|skip
  simp;funext k;simp only[kJ];cases Nat.beq k i<;>cases Nat.beq k j<;>rfl
def Sv(c:Ctx)(e:Nat)(f:List Nat)(inl:Nat->List cA->St->Tree (cA×St))(b:Array Oper)(g:Nat->Fp)(Q:Gst->Prop):Nat->Array Bool->Gst->Prop
 | 0,listed,s=>Region.ready .any b listed=[]/\Q s
 | n+1,listed,s=>(Region.ready .any b listed=[]->Q s) /\
  ∀i∈Region.ready .any b listed,∃o h,b[i]?=ab o/\pJ c e f inl b (g i) i o s=ab h/\Sv c e f inl b g Q n (listed.setIfInBounds i true) h
variable {Q:Gst->Prop}
def XU{i q}(E:ops[i]?=ab q)(v:∀b∈(fp i).wr,b∈(fp i).rd):∀n c s r,
  Sr ops c->(∀j t,ops[j]?=ab t->j≠i->c.getD j true=false->Reach ops j i\/B2 ops i j q t (fp i) (fp j)=true) ->
  i∈Region.ready .any ops c->pJ cx nb bf inl ops (fp i) i q s=ab r->Sv cx nb bf inl ops fp Q n (c.setIfInBounds i true) r->Sv cx nb bf inl ops fp Q (n+1) c s:=by
 intro n;induction n with
 | zero =>
   intro c s r f g m C H;refine⟨λh=>(by rw[h] at m;cases m),λj u=>?_⟩;by_cases e:j=i
   .subst e;exact⟨q,r,E,C,H⟩
   .have:=ready_mono u e;rw[H.1] at this;cases this
 | succ n I =>
   intro c s r f g m C H;refine⟨λh=>(by rw[h] at m;cases m),λj u=>?_⟩;by_cases e:j=i
   .subst e;exact⟨q,r,E,C,H⟩
   .obtain⟨t,J,x,K,L⟩:=H.2 j (ready_mono u e);obtain⟨l,M,F,G⟩:=mem_ready.1 u;have o:B2 ops i j q t (fp i) (fp j)=true:=by
     rcases g j t x e l with O|o
     .exact(U4 (mem_ready.1 m).1<|O.ready f u).elim
     .exact o
    obtain⟨y,R,S⟩:=XT o v C K;refine⟨t,y,x,R,I _ y J (f.list u) (λk T U D z=>g k T U D ?_) (ready_mono m<|LI e) S ?_⟩
    .by_cases A:j=k
     .subst A;exact l
     .rw[getD_set_ne true A] at z;exact z
    .rw[aiF _ _ e];exact L
end
end Go.Ge
