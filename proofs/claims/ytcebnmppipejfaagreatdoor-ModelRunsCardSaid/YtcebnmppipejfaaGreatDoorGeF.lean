import Derived.Test.YtcebnmppipejfaaGreatDoorGeE
import Derived.Tactics
set_option linter.unusedVariables false
set_option linter.unusedSimpArgs false
set_option linter.unusedSectionVars false
set_option linter.defProp false
open Option renaming some->aa,none->af
namespace Go.Ge
open RowKit
inductive uz (all:Array Oper) (G:List (Nat×Bool)):List (Nat×Oper)->List Oper->Prop
 | nil:uz all G [] []
 | cons {i:Nat} {o o':Oper} {r:List (Nat×Oper)} {l:List Oper}:all[i]?=aa o->(o'=o\/∃g,o.guard=aa g/\g∈G/\o'={ o with guard:=af })->uz all G r l->uz all G ((i,o')::r) (o::l)
def uz.mono{all G b}(c:∀g∈G,g∈b){items l}(h:uz all G items l):uz all b items l:=by induction h with|nil=>exact .nil|cons e f _ i=>exact .cons e (f.imp id λ⟨g,j,k,m⟩=>⟨g,j,c g k,m⟩) i
def YO{all G j want}:∀{items l inner},uz all G items l ->
  ∃b e,l=b++e/\uz all ((j,want)::G) (under j want inner items).1 b/\uz all G (under j want inner items).2 e:=by
 intro items l inner h;induction h generalizing inner with
 | nil=>exact⟨[],[],rfl,.nil,.nil⟩
 | @cons i o k r l n m C x =>
   unfold under;cases f:Cg k.guard j want with
   | true =>(obtain⟨b,e,q,s,t⟩:=x (inner:=i::inner);refine⟨o::b,e,by rw[q];rfl,.cons n (.inr ?_) s,t⟩;have D:k=o:=by rcases m with m|⟨g,y,z,u⟩;{exact m};rw[u] at f;cases f);subst D;unfold Cg at f;split at f;{(rename_i E A v;simp only[gC] at f;have F:=iN f.1;have H:A=want:=by simpa using f.2);subst F;subst H;exact⟨(E,A),v,pg ..,rfl⟩};cases f
   | false =>
     have both:∀c,∃b e,o::l=b++e /\
       uz all ((j,want)::G) (bif c then((i,k)::(under j want (i::inner) r).1,(under j want (i::inner) r).2) else([],(i,k)::r)).1 b /\uz all G (bif c then((i,k)::(under j want (i::inner) r).1,(under j want (i::inner) r).2) else([],(i,k)::r)).2 e:=by
      intro c;cases c with|true =>(obtain⟨b,e,q,s,t⟩:=x;exact⟨o::b,e,by rw[q];rfl,.cons n (m.imp id λ⟨g,y,z,u⟩=>⟨g,y,wG _ z,u⟩) s,t⟩)|false=>exact⟨[],o::l,rfl,.nil,.cons n m C⟩
     apply both
def abN{d}:∀{items},ph d items=false->∀i o,(i,o)∈items->o.dst≠aa d:=by intro items;induction items with|nil=>intro _ i o h;cases h|cons p r c =>intro h i o b;simp only[ph,Pc] at h;rcases eK.1 b with b|b;{obtain⟨rfl,rfl⟩:=b9 b;intro e;rw[e] at h;simp at h};exact c h.2 i o b
section
variable {P:Program} {B:DW} {N:Nat} {γ:Gh} {σ bb:St} {a:Act} {w w':World} {cx:Ctx} {nb:Nat} {bf:List Nat} {inl:Nat->List cw->St->Tree (cw×St)} {all:Array Oper}
def YP(c:Array Oper)(G:List (Nat×Bool))(a:Act)(b:List (Nat×Oper)):Prop :=∀g∈G,∃e,(c[g.1]?).bind (·.dst)=aa e/\a.tmps[e]?=aa (.bool g.2)/\ph e b=false
def YP.wanted{G items}(h:YP all G a items){o g}(b:o.guard=aa g)(c:g∈G):Region.wanted o (yielded all a.tmps)=true:=by obtain⟨i,e,f,_⟩:=h g c;unfold Region.wanted;rw[b];simp only[yielded,e,adQ,f];simp
def Fr(b:List (Nat×Oper))(a c:Act):Prop:=∀t,ph t b=false->c.tmps[t]?=a.tmps[t]?
def gm{a:Act}{d:Option Nat}{v t}(h:d≠aa t):(a.put d v).tmps[t]?=a.tmps[t]?:=by cases d with|none=>rfl|some k =>have:k≠t:=λe=>h (by rw[e]);simp[Act.put,Array.getElem?_setIfInBounds_ne this]
def Bp{d i o r}(h:ph d ((i,o)::r)=false):o.dst≠aa d/\ph d r=false:=by simp only[ph,Pc] at h;refine⟨λe=>?_,h.2⟩;rw[e] at h;simp at h
def YQ t:∀b,(σ.undef b).bw t=bif ph t b then .undef else σ.bw t:=by intro b;induction b with|nil=>rfl|cons p r c =>obtain⟨i,o⟩:=p;simp only[St.undef,ph];cases hd:o.dst with|none=>exact c|some k =>simp only[St.bF,St.put];cases f:Nat.beq k t with|true=>(obtain rfl:=iN f;simp)|false =>have:Nat.beq t k=false:=kn (λe=>by subst e;simp at f);rw[this];exact c
def yi:∀b,(σ.undef b).mem=σ.mem:=by intro b;induction b with|nil=>rfl|cons p r c =>obtain⟨i,o⟩:=p;simp only[St.undef];cases o.dst<;>exact c
def dz.undef(h:dz B N γ σ a w){items b}(c:Fr items a b)(f:b.tmps.size=N)(g:b.defers=[]):dz B N γ (σ.undef items) b w where
 bw:=λt=>by
  rw[YQ,yi];cases i:ph t items with
  | true=>exact⟨_,rfl⟩
  | false =>(have:=c t i;have e:b.tmps.getD t Go.undef=a.tmps.getD t Go.undef:=by simp only[abo,this]);rw[e];exact h.bw t
 size:=f
 defers:=g
 ok:=by rw[yi];exact h.ok
def Jc{d:Option Nat}{k}(h:yielded all a.tmps k=af):yielded all (a.put d Go.undef).tmps k=none:=by unfold yielded at h⊢;cases f:(all[k]?).bind _ with|none=>rfl|some b =>rw[f] at h;simp at h⊢;by_cases e:d=aa b;{subst e;simp only[Act.put];rw[amR];simp;by_cases c:b<a.tmps.size;{rw[aN c];rfl};rw[aK c]};rw[gm e];exact h
def Jd{i o}(h:all[i]?=aa o):yielded all (a.put o.dst Go.undef).tmps i=none:=by unfold yielded;rw[h];simp;cases hd:o.dst with|none=>rfl|some d =>simp only[adQ,Act.put];rw[amR];simp;by_cases b:d<a.tmps.size;{rw[aN b];rfl};rw[aK b]
def abO{G}{j E:Nat}{want c Q}(U:(all[j]?).bind (·.dst)=aa E)(F:c≠want) :
  ∀{items l inner a},uz all G items l->a.tmps[E]?=aa (.bool c)->ph E (under j want inner items).1=false->(∀k∈inner,yielded all a.tmps k=af) ->∃u x,l=u++x/\u.length=(under j want inner items).1.length/\∀e,(∀q,Fr (under j want inner items).1 a q->q.tmps.size=a.tmps.size->q.defers=a.defers->wpList P all Q e q w) ->wpList P all Q (u++e) a w:=by
 intro items l inner a h;induction h generalizing inner a with
 | nil=>intro _ _ _;exact⟨[],[],rfl,rfl,λe s=>s a (λt _=>rfl) rfl rfl⟩
 | @cons i o n r l V v h3 W =>
   intro S T y;have one:∀H,H.dst=o.dst->Region.wanted o (yielded all a.tmps)=false->(under j want inner ((i,n)::r)).1=(i,H)::(under j want (i::inner) r).1 ->
     ∃u x,o::l=u++x/\u.length=(under j want inner ((i,n)::r)).1.length/\∀e,(∀q,Fr (under j want inner ((i,n)::r)).1 a q->q.tmps.size=a.tmps.size->q.defers=a.defers->wpList P all Q e q w) ->wpList P all Q (u++e) a w:=by
    intro H z X A;rw[A] at T⊢;obtain⟨C,I⟩:=Bp T;rw[z] at C;obtain⟨u,x,Y,Z,e3⟩:=W (a:=a.put o.dst Go.undef) (by rw[gm C];exact S) I (λk s=>by rcases eK.1 s with rfl|s;{exact Jd V};exact Jc (y k s))
    refine⟨o::u,x,by rw[Y];rfl,by simp[Z],λe s=>?_⟩;show wpList P all Q (o::_) a w
    unfold wpList;rw[X];refine e3 e λq f1 f2 f3=>s q (λt ht=>?_) (f2.trans<|Yx _ _ _) (f3.trans<|put_defers _ _ _);obtain⟨D,J⟩:=Bp ht;rw[z] at D;rw[f1 t J,gm D]
   cases m:Cg n.guard j want with
   | true =>
     have K:n=o:=by rcases v with v|⟨g,k1,k2,L⟩;{exact v};rw[L] at m;cases m
     subst K;have f:n.guard=aa (j,want):=by
      unfold Cg at m;split at m
      .rename_i i' b' f;simp only[gC] at m;have h8:b'=want:=by simpa using m.2
       rw[f,(iN m.1),h8]
      .cases m
     refine one { n with guard:=af } rfl ?_ (by simp only[under,m,B9]);unfold Region.wanted;rw[f];simp only[yielded,U,adQ,S];cases c<;>cases want<;>first|rfl|exact absurd rfl F
   | false =>
     cases f:n.guard with
     | none =>
       have A:(under j want inner ((i,n)::r)).1=[]:=by
        rw[f] at m;simp only[under,f,m,zw]
       rw[A];exact⟨[],o::l,rfl,rfl,λe s=>s a (λt _=>rfl) rfl rfl⟩
     | some g =>
       obtain⟨k,b⟩:=g;rw[f] at m;cases M:inner.any (Nat.beq k) with
       | true =>
         have K:n=o:=by
          rcases v with v|⟨g,k1,k2,L⟩
          .exact v
          .rw[L] at f;cases f
         subst K;refine one n rfl ?_ (by simp only[under,f,m,M,zw,B9]);obtain⟨k',O,R⟩:=SM.1 M;obtain rfl:=iN R;unfold Region.wanted;rw[f];simp only[y k O];rfl
       | false =>
         have A:(under j want inner ((i,n)::r)).1=[]:=by simp only[under,f,m,M,zw]
         rw[A];exact⟨[],o::l,rfl,rfl,λe s=>s a (λt _=>rfl) rfl rfl⟩
end
end Go.Ge
namespace Go.Ge
open RowKit
section
variable {P:Program} {B:DW} {N:Nat} {γ:Gh} {σ bb:St} {a:Act} {w w':World} {cx:Ctx} {nb:Nat} {bf:List Nat} {inl:Nat->List cw->St->Tree (cw×St)} {all:Array Oper}
def Qe σ items:b5 σ (σ.undef items):=b5.aiA (yi items)
def Je(h:∀f i σ v bb,(inl f i σ).run=aa (v,bb)->b5 σ bb):∀n b σ,bu σ (sW cx nb bf inl all n b σ):=by intro n;induction n with|zero=>intro b σ;exact bu.fail|succ n k =>intro b σ;cases b with|nil=>exact bu.ret (b5.refl _)|cons p r =>unfold sW;split;{exact bu.bind λb4 l y g=>(Ep h b4 l).trans (k _ _ y g)};rename_i j e C;dsimp only;split;{exact bu.fail};rename_i u z;split;{rename_i c D E t m o;cases F:ph u (under j e [] _).1 with|true=>exact bu.fail|false =>split;{exact bu.fail};cases A:Ou cx (under j e [] _).1 with|true =>(intro y g;obtain⟨cM,l,q⟩:=bind_some g;refine b5.trans ?_ (k _ _ y q);refine(bu.node ?_ ?_) cM l;{refine bu.bind λτ s=>?_;split;{exact bu.ret ((k _ _ τ s).trans<|b5.bF _ _ _)};exact bu.fail};split;{exact bu.ret ((Qe _ _).trans<|b5.bF _ _ _)};exact bu.fail)|false =>simp;split;{intro y g;rw[Tree.D9] at g;obtain⟨x,l,q⟩:=Gl.1 g;exact((Qe _ _).trans<|b5.put _ _ _).trans (k _ _ y q)};exact bu.fail};exact bu.fail
def ad7{mem t v x val}(h:toD t v=aa x)(b:cK γ mem w v .val [val]){cS}:cK γ cS w (.data t x) .val [val]:=by
 unfold toD at h;split at h
 .obtain⟨q,c⟩:=Ty.lZ h;subst q;subst c;exact b
 {split at h;{(obtain rfl:=aU h;obtain rfl:val=_:=by simpa [cK] using b);exact⟨[.slice af 0 0],.inl ⟨⟨af,rfl⟩,rfl⟩,rfl⟩};cases h};cases h
def uz.length{G items l}(h:uz all G items l):items.length=l.length:=by induction h with|nil=>rfl|cons _ _ _ b=>simp[b]
def abP{g i b v K Q}(h:dz B N γ σ a w)(l:a.tmps[i]?=aa (.bool b)){want}(m:b=want)
  (e:Ch σ g i want=aa v) (n:∀y,cK γ σ.mem w v .val [y]->K (a.put g.dst y) w):g.wp P a w K Q:=by
 unfold Ch at e;split at e
 .rename_i c x y j;cases k:Nat.beq c i with
  | false=>rw[k] at e;cases e
  | true =>(obtain rfl:=iN k;rw[k] at e;obtain rfl:=aU e;subst m;have o:a.eval (.tmp c)=.bool b:=by simp[Act.eval,l]);(unfold Oper.wp;have f:(execOp a.eval g).run P w=.ok (.value<|a.eval<|bif b then x else y) w:=by simp only[execOp,j,o];cases b<;>rfl);rw[f];exact n _ (h.dm _)
 .cases e
def YP.put{G i o r}(h:YP all G a ((i,o)::r)) v:YP all G (a.put o.dst v) r:=by intro g b;obtain⟨c,e,f,j⟩:=h g b;obtain⟨k,l⟩:=Bp j;exact⟨c,e,by rw[gm k];exact f,l⟩
def abQ{d j want}:∀{items inner},ph d items=(ph d (under j want inner items).1||ph d (under j want inner items).2):=by
 intro items;induction items with
 | nil=>intro inner;rfl
 | cons p r b =>
   obtain⟨i,o⟩:=p;intro inner;unfold under;cases e:Cg o.guard j want with
   | true=>simp only[B9,ph,adY];rw[b (inner:=i::inner)]
   | false =>
     have both:∀c,ph d ((i,o)::r)=(ph d (bif c then((i,o)::(under j want (i::inner) r).1,(under j want (i::inner) r).2) else([],(i,o)::r)).1 ||
       ph d (bif c then((i,o)::(under j want (i::inner) r).1,(under j want (i::inner) r).2) else([],(i,o)::r)).2):=by
      intro c;cases c with|true=>simp only[B9,ph,adY];rw[b]|false=>simp[ph]
     apply both
def abR{p:Option Nat->Prop}{j want}:∀{items inner},(∀i o,(i,o)∈items->p o.dst) ->
  (∀i o,(i,o)∈(under j want inner items).1->p o.dst)/\(∀i o,(i,o)∈(under j want inner items).2->p o.dst):=by
 intro items;induction items with
 | nil=>intro inner h;exact⟨h,h⟩
 | cons q r l =>
   obtain⟨e,f⟩:=q;intro inner h;have m:=h e f (pg ..);have n:=λi o b=>h i o (wG _ b);unfold under;cases s:Cg f.guard j want with
   | true =>obtain⟨g,k⟩:=l n;refine⟨λi o b=>?_,k⟩;rcases eK.1 b with b|b;{obtain⟨_,rfl⟩:=b9 b;exact m};exact g i o b
   | false =>
     have both:∀c,(∀i o,(i,o)∈(bif c then((e,f)::(under j want (e::inner) r).1,(under j want (e::inner) r).2) else([],(e,f)::r)).1->p o.dst) /\
       (∀i o,(i,o)∈(bif c then((e,f)::(under j want (e::inner) r).1,(under j want (e::inner) r).2) else([],(e,f)::r)).2->p o.dst):=by
      intro c;cases c with|true =>(obtain⟨g,k⟩:=l n;refine⟨λi o b=>?_,k⟩;rcases eK.1 b with b|b;{obtain⟨_,rfl⟩:=b9 b;exact m};exact g i o b)|false=>exact⟨λi o b=>(by cases b),h⟩
     apply both
def Mp{t}{b:Bool}(h:dz B N γ σ a w)(f:σ.bw t=.data .bool b):a.tmps[t]?=aa (.bool b):=by have:=h.bw t;rw[f] at this;have e:=Cj this;rw[abo] at e;cases c:a.tmps[t]? with|none=>rw[c] at e;cases e|some y=>rw[c] at e;exact congrArg aa e
def YR{α c want}{t e:Tree α}{y}(h:(Tree.node (bif want then c else nt c) t e).run=aa y):(c=want/\t.run=aa y)\/(c≠want/\c=(!want)/\e.run=aa y):=by
 have:=gH h;cases c<;>cases want
 .exact .inl ⟨rfl,this⟩
 .exact .inr ⟨aW,rfl,this⟩
 {exact .inr ⟨aW,rfl,this⟩};exact .inl ⟨rfl,this⟩
def S3(hc:fM P cx)(ale:sn P B.G cx)(alf:zG P B.G inl)(ao7:∀f anG σ v bb,(inl f anG σ).run=aa (v,bb)->b5 σ bb){Q} :
  ∀n {items l rest σ bb γ a w G},uz all G items l->YP all G a items->(∀i o,(i,o)∈items->∀k,o.dst=aa k->k<N) ->(sW cx nb bf inl all n items σ).run=aa bb->dz B N γ σ a w ->(∀bM a' w',dz B N bM bb a' w'->Ext B γ σ.mem w bM bb.mem w'->Fr items a a'->wpList P all Q rest a' w')->wpList P all Q (l++rest) a w:=by
 intro n;induction n with
 | zero=>intro items l rest σ bb γ a w G _ _ _ s;cases s
 | succ n ih =>
   intro items l rest σ bb γ a w G hit hG hd s h hK;cases hit with
   | nil =>obtain rfl:=aU s;exact hK γ a w h (Ext.refl _ _ _ _) (λt _=>rfl)
   | @cons i o o' r l h1 h2 h3 =>
     (have O:o'.dst=o.dst:=by rcases h2 with rfl|⟨_,_,_,rfl⟩<;>rfl);unfold sW at s;split at s
     .rename_i hg;obtain⟨b4,r1,r2⟩:=bind_some s;have hw:Region.wanted o (yielded all a.tmps)=true:=by rcases h2 with rfl|⟨g,k1,k2,k3⟩;{unfold Region.wanted;rw[hg]};exact hG.wanted k1 k2
      have r1':(sV cx nb bf inl o σ).run=aa b4:=by
       rcases h2 with rfl|⟨g,k1,k2,rfl⟩;{exact r1}
       .exact r1
      show wpList P all Q (o::_) a w
      unfold wpList;rw[hw];refine .inl (P6 hc ale alf h (λk X=>hd i o' (pg ..) k (by rw[O];exact X)) r1' λu v L R x1=>?_);have hG':=hG.put v;rw[O] at hG';refine ih h3 hG' (λi o hm=>hd i o (wG _ hm)) r2 R λS a2 w2 s2 x2 f2=>hK S a2 w2 s2 (x1.trans x2) λt ht=>?_;obtain⟨t1,Y⟩:=Bp ht;rw[f2 t Y,gm (by rw[<-O];exact t1)]
     .rename_i j m hg;dsimp only at s;split at s
      .exact absurd s ch
      rename_i dj hdj;split at s
      case h_2=>exact absurd s ch
      rename_i c ip pk F ao8 aiB;cases hh:ph dj (under j m [] _).1 with
      | true=>rw[hh] at s;exact absurd s ch
      | false =>
      rw[hh] at s;split at s
      .exact absurd s ch
      rename_i hpg;have T:=Mp h ao8;obtain⟨l1,l2,e1,I1,I2⟩:=YO (uz.cons h1 h2 h3);obtain⟨d1,d2⟩:=abR (p:=λd=>∀k,d=aa k->k<N) hd;have U:∀d,ph d ((i,o')::r)=(ph d (under j m [] _).1||ph d (under j m [] _).2):=λd=>abQ;have ao9:=λq=>abO (P:=P) (w:=w) (Q:=Q) hdj q (uz.cons h1 h2 h3) T hh Ak;generalize hg1:(under j m [] _).1=Z at *;rw[aiB] at I2 d2 U;cases I2 with
      | @cons _ z _ _ l2' p1 p2 p3 =>
      have H:pk.dst=z.dst:=by rcases p2 with rfl|⟨_,_,_,rfl⟩<;>rfl
      have aqQ:pk.op=z.op:=by rcases p2 with rfl|⟨_,_,_,rfl⟩<;>rfl
      rw[e1,rO];have C:∀{d},ph d ((i,o')::r)=false->ph d Z=false/\z.dst≠aa d/\ph d F=false:=by
       intro d hd0;rw[U] at hd0;simp at hd0;obtain⟨q1,q2⟩:=Bp hd0.2;exact⟨hd0.1,by rw[<-H];exact q1,q2⟩
      have tail:∀u τ cM A L v b,dz B N u τ A L->Fr Z a A->c=b->Ch τ pk dj b=aa v ->
        (∀y,cK u τ.mem L v .val [y]->∃S,dz B N S cM (A.put z.dst y) L/\Ext B γ σ.mem w S cM.mem L)->(sW cx nb bf inl all n F cM).run=aa bb ->
        wpList P all Q (z::l2'++rest) A L:=by
       intro u τ cM A L v b R E hcb D hy I;have hGp:YP all G A ((ip,pk)::F):=λg V=>by
        obtain⟨dj',k1,k2,k3⟩:=hG g V;obtain⟨q1,q2,q3⟩:=C k3;refine⟨dj',k1,by rw[E dj' q1];exact k2,?_⟩;simp only[ph,Pc];refine⟨?_,q3⟩;cases M:pk.dst with
        | none=>rfl
        | some k=>exact kn λe=>q2 (by rw[<-H,M,e])
       have hwp:Region.wanted z (yielded all A.tmps)=true:=by
        rcases p2 with rfl|⟨g,k1,k2,k3⟩
        .unfold Region.wanted;rw[hpg]
        .exact hGp.wanted k1 k2
       show wpList P all Q (z::_) A L
       unfold wpList;rw[hwp];have aqR:Ch τ z dj b=aa v:=by rw[<-D];unfold Ch;rw[aqQ]
       refine .inl (abP R (by rw[E dj hh];exact T) hcb aqR λy hyr=>?_);obtain⟨S,s2,x2⟩:=hy y hyr;have hGr:=hGp.put y;rw[H] at hGr;refine ih p3 hGr (λi o hm=>d2 i o (wG _ hm)) I s2 λγ3 a3 w3 s3 x3 f3=>hK γ3 a3 w3 s3 (x2.trans x3) λt ht=>?_;obtain⟨q1,q2,q3⟩:=C ht;rw[f3 t q3,gm q2,E t q1]
      have W:∀(τ:St) d v,(τ.bF d v).mem=τ.mem:=λτ d v=>by cases d<;>rfl
      have M:=λk X=>d2 ip pk (pg ..) k (by rw[H];exact X);have hG1:c=m->YP all ((j,m)::G) a Z:=λq g V=>by
       rcases eK.1 V with rfl|V
       .exact⟨dj,hdj,by rw[<-q];exact T,hh⟩
       .obtain⟨dj',k1,k2,k3⟩:=hG g V;exact⟨dj',k1,k2,(C k3).1⟩
      have kH:c≠m->(∀A,Fr Z a A->A.tmps.size=a.tmps.size->A.defers=a.defers->wpList P all Q (z::l2'++rest) A w)->wpList P all Q (l1++(z::l2'++rest)) a w:=by
       intro q X;obtain⟨m1,m2,q1,q2,q3⟩:=ao9 q;rw[e1] at q1;obtain⟨rfl,rfl⟩:=List.append_inj q1 (by rw[q2,I1.length]);exact q3 _ X
      cases hin:Ou cx Z with
      | true =>
        rw[hin] at s;obtain⟨cM,J,I⟩:=bind_some s;rcases YR J with ⟨q,J⟩|⟨q,hcn,J⟩
        .obtain⟨τ,t1,Y⟩:=bind_some J;split at Y
         .rename_i v D;obtain rfl:=aU Y;refine ih I1 (hG1 q) d1 t1 h λu A L R x1 E=>tail u τ _ A L v m R E q D (λy hy=>⟨u,?_,?_⟩) I
          .rw[H];exact R.yu M hy
          .rw[W];exact x1
         .exact absurd Y ch
        .split at J
         .rename_i v D;obtain rfl:=aU J;refine kH q λA E f2 f3=>tail γ (σ.undef Z) _ A w v (!m) (h.undef E (f2.trans h.size)<|f3.trans h.defers) E hcn D (λy hy=>⟨γ,?_,?_⟩) I
          .rw[H];exact(h.undef E (f2.trans h.size)<|f3.trans h.defers).yu M hy
          .rw[W,yi];apply Ext.refl
         .exact absurd J ch
      | false =>
        rw[hin] at s;simp at s;split at s
        case h_2=>exact absurd s ch
        rename_i t dp hT hdp;rw[Tree.D9] at s;obtain⟨x,J,I⟩:=Gl.1 s;have K:z.dst=aa dp:=by rw[<-H];exact hdp
        rcases YR J with ⟨q,J⟩|⟨q,hcn,J⟩
        .obtain⟨τ,t1,Y⟩:=bind_some J;split at Y
         .rename_i x' D;obtain rfl:=aU Y;obtain⟨v,hv1,hv2⟩:=Gl.1 D;refine ih I1 (hG1 q) d1 t1 h.jn λu A L R x1 E=>tail u τ _ A L v m R E q hv1 (λy hy=>?_) I;obtain⟨m1,m2⟩:=h.ok.unlock (We<|Je ao7 n Z _ τ t1) R.ok x1;refine⟨u,?_,?_⟩
          .rw[K];exact((h.go m2 m1).undef E R.size R.defers).yu (λk X=>M k (by rw[K];exact X)) (ad7 hv2 hy)
          .show Ext B γ σ.mem w u (σ.undef Z).mem L
           rw[yi];exact m2
         .exact absurd Y ch
        .split at J
         .rename_i x' D;obtain rfl:=aU J;obtain⟨v,hv1,hv2⟩:=Gl.1 D;refine kH q λA E f2 f3=>tail γ _ _ A w v _ (h.undef E (f2.trans h.size)<|f3.trans h.defers) E hcn hv1 (λy hy=>⟨γ,?_,?_⟩) I
          .rw[K];exact(h.undef E (f2.trans h.size)<|f3.trans h.defers).yu (λk X=>M k (by rw[K];exact X)) (ad7 hv2 hy)
          .show Ext B γ σ.mem w γ (σ.undef Z).mem w
           rw[yi];apply Ext.refl
         .exact absurd J ch
end
end Go.Ge
namespace Go.Ge
open RowKit
section
variable {P:Program} {B:DW} {N:Nat} {γ:Gh} {σ bb:St} {a:Act} {w w':World} {cx:Ctx} {nb:Nat} {bf:List Nat} {inl:Nat->List cw->St->Tree (cw×St)} {ops:Array Oper}
def Wf:∀{l:List Oper} {k:Nat},(∀j,l[j]?=ops[k+j]?)->uz ops [] (number k l) l:=by intro l;induction l with|nil=>intro k _;exact .nil|cons o l b =>intro k h;refine .cons ?_ (.inl rfl) (b λj=>by have:=h (j+1);simpa [Ht,adZ 1 j] using this);have:=h 0;simpa using this.symm
def abS:∀{l:List Oper} {k i:Nat} {o:Oper},(i,o)∈number k l->o∈l:=by intro l;induction l with|nil=>intro k i o h;cases h|cons p l b =>intro k i o h;rcases eK.1 h with h|h;{obtain⟨_,rfl⟩:=b9 h;exact pg ..};exact wG _ (b h)
def Wg(n:fM P cx)(c:sn P B.G cx)(e:zG P B.G inl)(b:∀f g σ v bb,(inl f g σ).run=aa (v,bb)->b5 σ bb){Q:Exit->Act->World->Prop}{id:Nat}
  (q:∀o∈ops.toList,∀k,o.dst=aa k->k<N) (r:(Px cx nb bf inl ops σ).run=aa bb) (h:dz B N γ σ a w) (t:∀bM m w',dz B N bM bb m w'->Ext B γ σ.mem w bM bb.mem w'->Fr (number 0 ops.toList) a m->Q .normal m w'):(Code.region id ops false).wp P Q a w:=by
 refine wp_region_list ?_;have:=S3 (all:=ops) (Q:=Q) (rest:=[]) n c e b _ (Wf (l:=ops.toList) (k:=0) λj=>aW) Ak (λi o u=>q o (abS u)) r h (λbM m w' s x f=>wpList_nil (t bM m w' s x f))
 simpa using this
end
end Go.Ge
namespace Go.Ge
open RowKit
def wJ(p:Nat->Prop)(e c:St):Prop:=∀b,c.mem b=e.mem b\/(c.mem b≠af/\p b)
section
variable {p:Nat->Prop} {σ τ ρ:St}
def wJ.refl σ:wJ p σ σ:=λ_=>.inl rfl
def wJ.aiA(h:τ.mem=σ.mem):wJ p σ τ:=λb=>.inl (by rw[h])
def wJ.trans(h:wJ p σ τ)(k:wJ p τ ρ):wJ p σ ρ:=λb=>by
 rcases k b with c|c
 {rcases h b with e|⟨e,f⟩;{exact .inl (c.trans e)};exact .inr ⟨by rw[c];exact e,f⟩};exact .inr c
def wJ.bF σ d v:wJ p σ (σ.bF d v):=by cases d<;>exact λ_=>.inl rfl
def wJ.put σ d v:wJ p σ (σ.put d v):=λ_=>.inl rfl
def wJ.cd{b bx}(h:p b):wJ p σ (σ.cd b bx):=λc=>by
 by_cases e:c=b
 {subst e;exact .inr ⟨by simp[St.cd],h⟩};exact .inl (by rw[yw,bh _ e])
end
def cg(p:Nat->Prop)(b:St)(T:Tree St):Prop:=∀y,T.run=aa y->wJ p b y
section
variable {p:Nat->Prop} {σ:St}
def cg.fail:cg p σ .fail:=λy h=>by cases h
def cg.ret{bb}(h:wJ p σ bb):cg p σ (.ret bb):=λy b=>by obtain rfl:=aU b;exact h
def cg.bif{c t}(h:cg p σ t):cg p σ (bif c then t else .fail):=λy b=>h y (aD b).2
def cg.jw{c t}(h:cg p σ t):cg p σ (.jw c t):=λy b=>h y (cL b).2
def cg.look{T}{o:Option T}{k}(h:∀x,cg p σ (k x)):cg p σ (.look o k):=λy b=>by obtain⟨x,_,c⟩:=ck b;exact h x y c
def cg.node{c t e}(h:cg p σ t)(k:cg p σ e):cg p σ (.node c t e):=λy b=>by have:=gH b;cases c with|true=>exact h y this|false=>exact k y this
def cg.bind{α}{t:Tree α}{f}(h:∀x,t.run=aa x->cg p σ (f x)):cg p σ (t.bind f):=λy b=>by obtain⟨x,c,e⟩:=bind_some b;exact h x c y e
def cg.bH{b val tid buf d}{v:Nat->cw}(h:p b):cg p σ (σ.bH b val tid buf λc σ=>.ret (σ.put d<|v c)):=λy e=>by obtain⟨c,g,f⟩:=oF e;obtain rfl:=aU f;exact(wJ.cd h).trans (wJ.put _ _ _)
def Qf{σ bb b}(g:∀b,σ.mem b≠af->p b)(h:freeze σ b=aa bb):wJ p σ bb:=by
 unfold freeze at h;split at h
 {rename_i f i;cases c:f.ro with|true=>simp only[c,B9,Ph] at h;rw[<-h];apply wJ.refl|false =>cases e:f.lk with|true=>simp[c,e] at h|false =>simp only[c,e,zw,Ph] at h;rw[<-h];exact wJ.cd (g b<|by rw[i];simp)};cases h
def Nz(p:Nat->Prop)(e c:St):Prop:=(∀b,e.mem b≠af->p b)->wJ p e c/\∀b,c.mem b≠af->p b
def Nz.refl σ:Nz p σ σ:=λh=>⟨wJ.refl _,h⟩
def Nz.trans{σ τ ρ}(h:Nz p σ τ)(k:Nz p τ ρ):Nz p σ ρ:=λb=>by obtain⟨c,e⟩:=h b;obtain⟨f,g⟩:=k e;exact⟨c.trans f,g⟩
def Nz.of{σ bb}(h:(∀b,σ.mem b≠af->p b)->wJ p σ bb):Nz p σ bb:=λc=>by
 refine⟨h c,λb e=>?_⟩;rcases h c b with k|k
 {exact c b (by rw[<-k];exact e)};exact k.2
def YS:∀{v σ bb},jl σ v=aa bb->Nz p σ bb:=by intro v;induction v with|mix p q c e =>(intro σ bb h;obtain⟨b4,g,i⟩:=zE h;exact(c g).trans (e i))|whole b aY=>intro σ bb h;exact Nz.of λf=>Qf f h|part b aY lo n=>intro σ bb h;exact Nz.of λf=>Qf f h|_=>intro σ bb h;obtain rfl:=aU h;apply Nz.refl
def Bq{t x v σ bb}(h:Ea σ t v=aa (x,bb)):Nz p σ bb:=by
 unfold Ea at h;split at h
 {split at h;{obtain⟨_,rfl⟩:=b9 (aU h);apply Nz.refl};cases h};split at h;{rename_i y b4 c b;obtain⟨_,rfl⟩:=b9 (aU h);exact YS b};cases h
def Er:∀{A x vs σ bb},l4 σ A vs=aa (x,bb)->Nz p σ bb:=by intro A;induction A with|pair t r e c =>(intro x vs σ bb b;cases vs with|nil=>cases b|cons v vs =>simp only[l4] at b;split at b;{rename_i p b4 f;split at b;{rename_i q cM g;obtain⟨_,rfl⟩:=b9 (aU b);exact(Bq f).trans (c g)};cases b};cases b)|unit =>(intro x vs σ bb b;cases vs with|nil=>(obtain⟨_,rfl⟩:=b9 (aU b);apply Nz.refl)|cons v vs=>cases b)|_=>intro x vs σ bb b;cases vs<;>cases b
def Qg{t}:∀{parts x b σ bb},gU σ t x parts=aa (b,bb)->Nz p σ bb:=by intro parts;induction parts with|nil=>(intro x b σ bb h;obtain⟨_,rfl⟩:=b9 (aU h);apply Nz.refl)|cons p r c =>intro x b σ bb h;simp only[gU] at h;split at h;{split at h;{rename_i e;split at h;{exact(Bq e).trans (c h)};cases h};cases h};cases h
def Az{e}:∀{parts l c σ bb},fJ σ e l parts=aa (c,bb)->Nz p σ bb:=by intro parts;induction parts with|nil=>(intro x i σ bb h;obtain⟨_,rfl⟩:=b9 (aU h);apply Nz.refl)|cons p r f =>obtain⟨k,o⟩:=p;intro l c σ bb h;simp only[fJ] at h;split at h;{rename_i g;cases b:Nat.blt k l.length with|false=>rw[b] at h;cases h|true=>rw[b] at h;exact(Bq g).trans (f h)};cases h
def Mq{b aY k fit u σ bb}(e:(storeAt b aY k fit u σ).run=aa bb):Nz p σ bb:=Nz.of λl=>by
 unfold storeAt at e;split at e;case h_2=>exact absurd e ch
 rename_i o m;obtain⟨q,f⟩:=aD e;obtain⟨n,r,g⟩:=bind_some f;obtain⟨j,h⟩:=aD g;obtain⟨c,s,i⟩:=bind_some h;obtain rfl:=aU i;exact wJ.cd (l b<|by rw[m];simp)
def YT{b aY l n u σ bb}(e:(u6 b aY l n u σ).run=aa bb):Nz p σ bb:=Nz.of λm=>by
 unfold u6 at e;split at e;case h_2=>exact absurd e ch
 rename_i s o;obtain⟨t,f⟩:=aD e;obtain⟨q,v,g⟩:=bind_some f;obtain⟨k,h⟩:=aD g;obtain⟨c,x,i⟩:=bind_some h;obtain⟨r,j⟩:=aD i;obtain rfl:=aU j;exact wJ.cd (m b<|by rw[o];simp)
def S4{cx bf ty x y σ bb}(e:(mY cx bf ty x y σ).run=aa bb):Nz p σ bb:=by
 unfold mY at e;split at e;case h_2=>exact absurd e ch
 split at e;case h_2=>exact absurd e ch
 obtain⟨g,f⟩:=aD e;obtain⟨i,l,c⟩:=bind_some f;split at c
 .rename_i u _;obtain⟨j,b⟩:=aD c;cases h:du bf 8000000&&aib u y with|true=>rw[h] at b;exact YT b|false=>
  rw[h] at b;split at b;{rename_i k;exact(Bq k).trans (Mq b)};exact absurd b ch
 obtain⟨j,b⟩:=aD c;exact Mq b
def Es{cx nb d ty s x σ bb}(g:∀k,d=aa k->p (nb+k))(h:∀b,σ.mem b≠af->p b)(c:(iP cx nb d ty s x σ).run=aa bb):wJ p σ bb:=by
 unfold iP at c;split at c;case h_2=>exact absurd c ch
 split at c;case h_2=>exact absurd c ch
 split at c
 .obtain⟨i,e⟩:=cL c;exact cg.bH (g _ rfl) _ e
 .split at c;case h_2=>exact absurd c ch
  rename_i n l j o;obtain⟨m,f⟩:=Cm c;obtain⟨i,e⟩:=cL f;obtain rfl:=aU e;exact(wJ.cd<|h _<|by rw[j];simp).trans (wJ.put _ _ _)
 exact absurd c ch
def abT{b val tid buf d}{v:Nat->cw}{σ bb}(h:p b)(e:(σ.bH b val tid buf λc σ=>.ret (σ.put d<|v c)).run=aa bb):wJ p σ bb:=cg.bH h _ e
def S5{nb e d args σ bb}(f:∀k,d=aa k->p (nb+k))(g:∀b,σ.mem b≠af->p b)(c:(nd nb e d args σ).run=aa bb):wJ p σ bb:=by
 unfold nd at c;split at c;case h_2=>cases c
 split at c;case h_2=>cases c
 rename_i h;obtain⟨_,c⟩:=aD c;obtain⟨_,c⟩:=cL c;exact((Bq h) g).1.trans (abT (f _ rfl) c)
def YU{e A res spec d args σ bb}(i:∀b,σ.mem b≠af->p b)(c:(u9 e A res spec d args σ).run=aa bb):wJ p σ bb:=by
 unfold u9 at c;split at c;case h_2=>cases c
 split at c;case h_2=>cases c
 rename_i x b4 j;split at c;case h_2=>cases c
 rename_i b m q l g;obtain⟨r,_,c⟩:=ck c;obtain⟨n,_⟩:=vS g;obtain⟨h,o⟩:=(Er j) i;have key:∀f,wJ p b4 (b4.cd b f):=λf=>wJ.cd (o b<|by rw[n];simp);cases res with|true =>(cases d with|none=>cases c|some k=>obtain rfl:=aU c;exact(h.trans<|key _).trans (wJ.put _ _ _))|false =>cases d with|none=>(obtain⟨_,c⟩:=aD c;obtain rfl:=aU c;exact(h.trans<|key _).trans (wJ.bF _ af _))|some k=>obtain⟨_,c⟩:=aD c;obtain rfl:=aU c;exact(h.trans<|key _).trans (wJ.bF _ _ _)
end
def S6{p:Prop}(h:p:=by repeat' (first|exact cg.fail|exact cg.ret (wJ.bF _ _ _)|exact cg.ret (wJ.put _ _ _)|exact cg.bH (by assumption)|refine cg.bif ?_|refine cg.jw ?_|refine cg.look λ_=>?_|refine cg.node ?_ ?_|refine cg.bind λ_ _=>?_|split)):p:=h
section
variable {cx:Ctx} {nb:Nat} {bf:List Nat} {d:Option Nat} {σ:St} {p:Nat->Prop}
def Wh{c a b}:cg p σ (qs d c a b σ):=by unfold qs;exact S6
def Wi{ty a}:cg p σ (mF cx d ty a σ):=by unfold mF;exact S6
def S7{ty x lo hi}:cg p σ (mZ cx d ty x lo hi σ):=by unfold mZ;exact S6
def afs{b aY i}:∀{m k},cg p σ (Pw d b aY σ i m k):=by intro m;induction m with|zero=>exact cg.fail|succ m c=>exact cg.node (cg.ret<|wJ.bF _ _ _) c
def zJ{ty x i}:cg p σ (eL cx d ty x i σ):=by
 unfold eL;split
 case h_6=>split
           .exact cg.bif afs
           .exact cg.fail
 all_goals exact S6
def S8{ty x i}:cg p σ (na cx d ty x i σ):=by
 unfold na;split
 {refine cg.bif ?_;split;{exact cg.bif (cg.ret<|wJ.bF _ _ _)};exact cg.fail};exact zJ
def S9{ty x i}:cg p σ (nc cx d ty x i σ):=by unfold nc;exact S6
def Jf{s x k}:cg p σ (fl cx d s x k σ):=by unfold fl;exact S6
def Et{ty v}(b:∀k,d=aa k->p (nb+k)):cg p σ (kk cx nb bf d ty v σ):=by
 unfold kk;split
 .exact S6
 {split;{rename_i k e _;cases du bf k with|true=>exact cg.bH (b _ rfl)|false=>exact cg.ret (wJ.put _ _ _)};exact cg.ret (wJ.bF _ _ _)};exact cg.ret (wJ.bF _ _ _)
def NA{s t x}(b:∀k,d=aa k->p (nb+k)):cg p σ (iz cx nb d s t x σ):=by
 unfold iz;split
 .exact S6
 .exact S6
 .split;{exact cg.jw (cg.bH<|b _ rfl)};exact cg.fail
 {exact S6};exact S6
def abU{o ge}(M:sX o σ=ge)(F:cls cx ge o≠3)(q:cls cx ge o≠0->∀k,o.dst=aa k->p (nb+k))(D:cls cx ge o≠0->cls cx ge o≠1->∀b,σ.mem b≠af->p b):cg p σ (sV cx nb bf Ee o σ):=by
 unfold sV;split;case h_1 x h=>exact Et (q<|by simp[cls,h])
 case h_2 x h=>exact Et (q<|by simp[cls,h])
 case h_3=>exact Wh
 case h_4 e h =>split;{(rename_i k t T I;have X:cls cx ge o≠0:=by cases t<;>simp[cls,h,I]);unfold yf;split;{exact absurd (by simp[cls,h,I]) F};exact cg.bH (q X _<|by assumption)};{rename_i I;split;{rename_i G;exact absurd (by simp[cls,h,I,G]) F};rename_i G;exact cg.bif (cg.bH<|q (by simp[cls,h,I,G]) _<|by assumption)};exact cg.fail
 case h_5 e x h =>unfold IC;split;{exact cg.fail};{exact cg.fail};{split;{rename_i G;exact absurd (by simp[cls,h,G]) F};rename_i G;exact cg.bH (q (by simp[cls,h,G]) _<|by assumption)};exact cg.fail
 case h_6 t ps h =>have j:=D (by simp[cls,h]) (by simp[cls,h]);split;{split;{rename_i z;exact cg.ret ((Qg z j).1.trans<|wJ.bF _ _ _)};exact cg.fail};{split;{rename_i z;exact cg.ret ((Az z j).1.trans<|wJ.bF _ _ _)};exact cg.fail};{exact S6};exact cg.fail
 case h_7 t n ps h =>have j:=D (by simp[cls,h]) (by simp[cls,h]);split;{split;{rename_i k J L;exact cg.bH (q (by simp[cls,h]) k (HE J).1)};refine cg.bif ?_;split;{rename_i z;split;{rename_i k T;exact λy C=>(Az z j).1.trans (cg.bH (q (by simp[cls,h]) k<|zI T) _ C)};exact cg.ret ((Az z j).1.trans<|wJ.bF _ _ _)};exact cg.fail};{unfold FD;split;{exact cg.bif (cg.bH<|q (by simp[cls,h]) _<|by assumption)};exact cg.fail};exact cg.fail
 case h_8=>exact Wi
 case h_9 t a x h =>have j:=D (by simp[cls,h]) (by simp[cls,h]);split;{exact λy C=>(S4 C j).1};exact cg.fail
 case h_10=>exact S6
 case h_11=>exact S6
 case h_12=>exact S6
 case h_13 s t x h=>exact NA (q<|by simp[cls,h])
 case h_14=>exact S6
 case h_15=>exact S7
 case h_16=>exact Jf
 case h_17=>exact S6
 case h_18=>split
            .cases du bf 5000000 with|true=>exact S8|false=>exact zJ
            .exact cg.fail
 case h_19=>split
            .exact S9
            .exact cg.fail
 case h_20 t l c h =>
  split
  .exact cg.jw (cg.jw<|cg.bH<|q (by simp[cls,h]) _<|by assumption)
  .exact cg.fail
 case h_21=>exact S6
 case h_22 c h =>
  unfold yq;split
  .rename_i b z;split
   .exact S6
   .have H:cls cx ge o≠0:=by simp[cls,h,z]
    have U:cls cx ge o≠1:=by simp[cls,h,z]
    split
    .exact λy C=>Es (q H) (D H U) C
    .exact λy C=>Es (q H) (D H U) C
    .exact cg.fail
   .exact absurd (by simp[cls,h,z]) F
   .exact absurd (by simp[cls,h,z]) F
   .exact S6
   .exact S6
   .exact cg.fail
  .rename_i f E;split
   .rename_i g V O;refine cg.bif ?_;have v:ge=aa g:=by rw[<-M];simp[sX,h,E,O]
    unfold xz;split
    .rename_i e R;have key:cls cx ge o=2:=by simp[cls,h,E,v,zH R]
     have H:cls cx ge o≠0:=by rw[key];simp
     exact λy C=>S5 (q H) (D H<|by rw[key];simp) C
    .rename_i e A r s R;have key:cls cx ge o=2:=by simp[cls,h,E,v,zH R]
     exact λy C=>YU (D (by rw[key];simp)<|by rw[key];simp) C
    unfold Au;split
    .rename_i Y i;split
     .split
      .exact cg.look λ_=>cg.ret (wJ.bF _ _ _)
      .exact cg.fail
     .rename_i S;have key:cls cx ge o=2:=by
       unfold cls;simp only[h,E,v];split
       .rfl
       .rfl
       .simp[i,S]
      split
      .rename_i K;exact cg.look λ_=>cg.ret ((Er K<|D (by rw[key];simp)<|by rw[key];simp).1.trans<|wJ.bF _ _ _)
      .exact cg.fail
    .rename_i i;split
     .rename_i s m;unfold FC;split
      .exact absurd (by simp[cls,h,E,v,i,m]) F
      .exact absurd (by simp[cls,h,E,v,i,m]) F
      .exact cg.fail
     .rename_i m;exact absurd (by simp[cls,h,E,v,i,m]) F
   .exact cg.fail
  .rename_i r W E;have key:cls cx ge o=2:=by simp[cls,h,E]
   unfold uK;split
   .split
    .rename_i K;exact cg.look λ_=>cg.ret ((Er K<|D (by rw[key];simp)<|by rw[key];simp).1.trans<|wJ.bF _ _ _)
    .exact cg.fail
   .exact cg.fail
 case h_23 u x h =>
  have key:cls cx ge o=2:=by simp[cls,h]
  unfold uJ;split
  .split
   .split
    .rename_i K;exact cg.ret ((Bq K<|D (by rw[key];simp)<|by rw[key];simp).1.trans<|wJ.bF _ _ _)
    .exact cg.fail
   .exact cg.fail
  .exact cg.fail
 case h_24=>exact cg.fail
end
end Go.Ge
namespace Go.Ge
open RowKit
def Le(c e:St):Prop:=∀b f,c.mem b=aa f->e.mem b=aa f
structure Rel (b4 cM ra qu:St):Prop where
 s1:ra.bw=b4.bw
 s2:qu.bw=cM.bw
 m:∀b,qu.mem b=match ra.mem b with|some x=>aa x|none=>cM.mem b
 nv:∀b,ra.mem b=af->b4.mem b=af
section
variable {b4 cM ra qu ρ1 ρ2:St}
def Rel.refl(h:Le b4 cM):Rel b4 cM b4 cM where
 s1:=rfl
 s2:=rfl
 m:=λb=>by cases c:b4.mem b with|none=>rfl|some x=>exact h b x c
 nv:=λ_ h=>h
def Rel.le(h:Rel b4 cM ra qu):Le ra qu:=λb e c=>by rw[h.m,c]
def Rel.trans(h:Rel b4 cM ra qu)(k:Rel ra qu ρ1 ρ2):Rel b4 cM ρ1 ρ2 where
 s1:=k.s1.trans h.s1
 s2:=k.s2.trans h.s2
 m:=λb=>by rw[k.m b];cases c:ρ1.mem b with|some x=>rfl|none=>rw[h.m b,k.nv b c]
 nv:=λb c=>h.nv b (k.nv b c)
def Rel.cd(f:Le b4 cM){b bx}:Rel b4 cM (b4.cd b bx) (cM.cd b bx) where
 s1:=rfl
 s2:=rfl
 m:=λc=>by
  by_cases e:c=b;{subst e;simp[St.cd]};rw[yw,yw,bh _ e,bh _ e];exact(Rel.refl f).m c
 nv:=λc g=>by by_cases e:c=b;{subst e;simp[St.cd] at g};rw[yw,bh _ e] at g;exact g
def FI{σ τ}(h:τ.bw=σ.bw) x:dm τ x=dm σ x:=by cases x<;>simp[dm,h]
def FJ(h:Le b4 cM){e v l}(c:jx e b4 v=aa l):jx e cM v=aa l:=by unfold jx at c⊢;cases v with|whole b aY =>(simp only at c⊢;cases f:b4.mem b with|none=>rw[f] at c;cases c|some g=>rw[f] at c;rw[h b g f];exact c)|part b aY lo n =>(simp only at c⊢;cases f:b4.mem b with|none=>rw[f] at c;cases c|some g=>rw[f] at c;rw[h b g f];exact c)|data u y=>cases u<;>exact c|_=>exact c
def ad8(h:Le b4 cM):∀{t v x},uv b4 t v=aa x->uv cM t v=aa x:=by intro t;induction t with|slice e l=>intro v x c;exact FJ h c|pair a b f g =>(intro v x c;cases v with|mix p q =>(obtain⟨y,z,i,j,rfl⟩:=I0 c;exact Uy (f i) (g j))|data u y=>exact c|_=>cases c)|alt u a r f k =>(intro v x c;cases v with|vN=>exact(sk c).2.1 _|_=>exact c)|_=>intro v x c;cases v<;>exact c
def tf(h:Le b4 cM){b aY}(c:live b4 b aY=true):live cM b aY=true:=by unfold live at c⊢;cases e:b4.mem b with|none=>rw[e] at c;cases c|some f=>rw[e] at c;rw[h b f e];exact c
def aiC(h:Le b4 cM){v n}(c:lenOf b4 v=aa n):lenOf cM v=aa n:=by unfold lenOf at c⊢;cases v with|whole b aY =>(simp only at c⊢;cases e:b4.mem b with|none=>rw[e] at c;cases c|some f=>rw[e] at c;rw[h b f e];exact c)|part b aY lo g =>(simp only at c⊢;cases hv:live b4 b aY with|false=>rw[hv] at c;cases c|true=>rw[hv] at c;rw[tf h hv];exact c)|data u y=>cases u<;>exact c|_=>exact c
def aft(h:Le b4 cM){e v l}(b:Ar e b4 v=aa l):Ar e cM v=aa l:=by
 unfold Ar at b⊢;split at b
 {exact b};exact FJ h b
def Qh(h:Le b4 cM){b aY r}(c:Cc b4 b aY=aa r):Cc cM b aY=aa r:=by unfold Cc at c⊢;cases e:b4.mem b with|none=>rw[e] at c;cases c|some f=>rw[e] at c;rw[h b f e];exact c
def UE(h:Le b4 cM){b}(c:freeze b4 b=aa ra):∃qu,freeze cM b=aa qu/\Rel b4 cM ra qu:=by unfold freeze at c⊢;cases g:b4.mem b with|none=>rw[g] at c;cases c|some i =>rw[g] at c;rw[h b i g];cases e:i.ro with|true =>simp only[e,B9,Ph] at c⊢;subst c;exact⟨_,rfl,Rel.refl h⟩|false =>cases f:i.lk with|true=>simp[e,f] at c|false =>simp only[e,f,zw,Ph] at c⊢;subst c;exact⟨_,rfl,Rel.cd h⟩
def abV:∀{v b4 cM ra},Le b4 cM->jl b4 v=aa ra->∃qu,jl cM v=aa qu/\Rel b4 cM ra qu:=by intro v;induction v with|mix p q e f =>(intro b4 cM ra h c;obtain⟨ρ1,i,j⟩:=zE c;obtain⟨ρ2,k,g⟩:=e h i;obtain⟨qu,l,m⟩:=f g.le j;exact⟨qu,by simp only[jl,k,l],g.trans m⟩)|whole b aY=>intro b4 cM ra h c;exact UE h c|part b aY lo n=>intro b4 cM ra h c;exact UE h c|_=>intro b4 cM ra h c;obtain rfl:=aU c;exact⟨_,rfl,Rel.refl h⟩
def FK(h:Le b4 cM){t x v}(b:Ea b4 t v=aa (x,ra)):∃qu,Ea cM t v=aa (x,qu)/\Rel b4 cM ra qu:=by unfold Ea at b⊢;cases v with|data u y =>simp only at b⊢;split at b;{rename_i z i;obtain⟨rfl,rfl⟩:=b9 (aU b);exact⟨_,rfl,Rel.refl h⟩};cases b|_ =>simp only at b⊢;split at b;{rename_i y ρ1 c e;obtain⟨rfl,rfl⟩:=b9 (aU b);obtain⟨qu,f,g⟩:=abV h e;rw[ad8 h c,f];exact⟨qu,rfl,g⟩};cases b
def HG:∀{A x vs b4 cM ra},Le b4 cM->l4 b4 A vs=aa (x,ra)->∃qu,l4 cM A vs=aa (x,qu)/\Rel b4 cM ra qu:=by intro A;induction A with|pair t r g c =>(intro x vs b4 cM ra h b;cases vs with|nil=>cases b|cons v vs =>simp only[l4] at b⊢;split at b;{rename_i p ρ1 i;obtain⟨ρ2,j,e⟩:=FK h i;split at b;{rename_i q f k;obtain⟨rfl,rfl⟩:=b9 (aU b);obtain⟨qu,l,m⟩:=c e.le k;exact⟨qu,by simp only[j,l],e.trans m⟩};cases b};cases b)|unit =>(intro x vs b4 cM ra h b;cases vs with|nil=>(obtain⟨rfl,rfl⟩:=b9 (aU b);exact⟨_,rfl,Rel.refl h⟩)|cons v vs=>cases b)|_=>intro x vs b4 cM ra h b;cases vs<;>cases b
def Ta{t}:∀{parts x e b4 cM ra},Le b4 cM->(∀o∈parts.map (·.2),dm b4 o=dm cM o)->gU b4 t x parts=aa (e,ra) ->
  ∃qu,gU cM t x parts=aa (e,qu)/\Rel b4 cM ra qu:=by
 intro parts;induction parts with|nil=>(intro x e b4 cM ra h g b;obtain⟨rfl,rfl⟩:=b9 (aU b);exact⟨_,rfl,Rel.refl h⟩)|cons p r j =>obtain⟨k,o⟩:=p;intro x e b4 cM ra h g b;simp only[gU] at b⊢;split at b;{rename_i u v;split at b;{rename_i y ρ1 i;rw[(g o aW)] at i;obtain⟨ρ2,l,f⟩:=FK h i;split at b;{rename_i z m;obtain⟨qu,n,q⟩:=j f.le (λs c=>by rw[FI f.s1,FI f.s2];exact g s (by simp at c⊢;exact .inr c)) b;exact⟨qu,by simp only[l,m,n],f.trans q⟩};cases b};cases b};cases b
def Jg{e}:∀{parts l i b4 cM ra},Le b4 cM->(∀o∈parts.map (·.2),dm b4 o=dm cM o)->fJ b4 e l parts=aa (i,ra) ->
  ∃qu,fJ cM e l parts=aa (i,qu)/\Rel b4 cM ra qu:=by
 intro parts;induction parts with|nil=>(intro x v b4 cM ra h j b;obtain⟨rfl,rfl⟩:=b9 (aU b);exact⟨_,rfl,Rel.refl h⟩)|cons p r n =>obtain⟨k,o⟩:=p;intro l i b4 cM ra h j b;simp only[fJ] at b⊢;split at b;{rename_i y ρ1 m;rw[(j o aW)] at m;obtain⟨ρ2,q,g⟩:=FK h m;cases c:Nat.blt k l.length with|false=>rw[c] at b;cases b|true =>rw[c] at b;obtain⟨qu,s,t⟩:=n g.le (λu f=>by rw[FI g.s1,FI g.s2];exact j u (by simp at f⊢;exact .inr f)) b;exact⟨qu,by simp only[q,B9,s],g.trans t⟩};cases b
def lift(c:St)(d:Option Nat)(y:St):St :=
 { bw:=match d with|some d=>λt=>bif Nat.beq t d then y.bw d else c.bw t|none=>c.bw
   mem:=λb=>match y.mem b with|some x=>aa x|none=>c.mem b }
def afu(R:Rel b4 cM ra qu) d v:lift cM d (ra.bF d v)=qu.bF d v:=by have c:=funext λb=>(R.m b).symm;cases d with|none=>simp only[lift,St.bF,c,<-R.s2]|some d =>simp only[lift,St.bF,St.put,<-R.s2];congr 1;funext t;cases e:Nat.beq t d with|true=>simp|false=>simp
def LT(b:St)(d:Option Nat)(c e:Tree St):Prop:=∀y,c.run=aa y->e.run=aa (lift b d y)
variable {d:Option Nat}
def LT.fail{T}:LT cM d .fail T:=λy h=>by cases h
def LT.ret(R:Rel b4 cM ra qu){v}:LT cM d (.ret<|ra.bF d v) (.ret<|qu.bF d v):=λy h=>by obtain rfl:=aU h;rw[afu R];rfl
def LT.abW(R:Rel b4 cM ra qu){k v}:LT cM (aa k) (.ret<|ra.put k v) (.ret<|qu.put k v):=LT.ret R
def LT.store(R:Rel b4 cM ra qu):LT cM af (.ret ra) (.ret qu):=LT.ret (v:=.undef) R
def LT.bif{c t u}(h:LT cM d t u):LT cM d (bif c then t else .fail) (bif c then u else .fail):=by cases c<;>first|exact LT.fail|exact h
def LT.YV{c b t u}(e:c=true->b=true)(h:LT cM d t u):LT cM d (bif c then t else .fail) (bif b then u else .fail):=by cases c with|false=>exact LT.fail|true=>rw[e rfl];exact h
def LT.jw{c t u}(h:LT cM d t u):LT cM d (.jw c t) (.jw c u):=λy b=>by obtain⟨rfl,e⟩:=cL b;exact h y e
def LT.look{T}{o:Option T}{k b}(h:∀x,LT cM d (k x) (b x)):LT cM d (.look o k) (.look o b):=λy c=>by obtain⟨x,rfl,e⟩:=ck c;exact h x y e
def LT.node{c t e b f}(h:LT cM d t b)(k:LT cM d e f):LT cM d (.node c t e) (.node c b f):=λy g=>by have:=gH g;cases c with|true=>exact h y this|false=>exact k y this
def LT.bind{α}{t:Tree α}{f g}(h:∀x,t.run=aa x->LT cM d (f x) (g x)):LT cM d (t.bind f) (t.bind g):=λy c=>by obtain⟨x,b,e⟩:=bind_some c;rw[Tree.run_bind,b];exact h x b y e
def LT.bH(e:Le b4 cM){k b}(f:b4.mem b=cM.mem b){val tid buf}{v:Nat->cw} :
  LT cM (aa k) (b4.bH b val tid buf λc σ=>.ret (σ.put k<|v c)) (cM.bH b val tid buf λc σ=>.ret (σ.put k<|v c)):=by
 unfold St.bH;rw[<-f];cases g:b4.mem b with|none=>exact LT.abW (Rel.cd e)|some bx =>simp only;cases bx.lk with|true=>exact LT.fail|false=>exact LT.abW (Rel.cd e)
def LT.mem(c:Le b4 cM){b}{f g:Option Box->Tree St}(i:f af=.fail)(h:∀bx,b4.mem b=aa bx->LT cM d (f<|some bx) (g<|some bx)):LT cM d (f<|b4.mem b) (g<|cM.mem b):=by cases e:b4.mem b with|none=>rw[i];exact LT.fail|some bx=>rw[c b bx e];exact h bx e
end
end Go.Ge
namespace Go.Ge
open RowKit
section
variable {b4 cM:St} {d:Option Nat} {cx:Ctx} {nb:Nat} {bf:List Nat} {inl:Nat->List cw->St->Tree (cw×St)}
def GO(b:Le b4 cM)(c:∀k,d=aa k->b4.mem (nb+k)=cM.mem (nb+k)){ty v}:LT cM d (kk cx nb bf d ty v b4) (kk cx nb bf d ty v cM):=by have R:=Rel.refl b;unfold kk;cases v with|undef=>exact LT.bif (LT.ret R)|qq =>simp only;split;{rename_i k e _;cases du bf k with|true=>exact LT.bH b (c k rfl)|false=>exact LT.abW R};exact LT.ret R|_=>exact LT.ret R
def YW(e:Le b4 cM){c a b}:LT cM d (qs d c a b b4) (qs d c a b cM):=by
 have R:=Rel.refl e;unfold qs;split
 {split;{split;{exact LT.ret R};exact LT.fail};exact LT.node (LT.ret R) (LT.ret R)};exact LT.fail
def YX(c:Le b4 cM){ty a}:LT cM d (mF cx d ty a b4) (mF cx d ty a cM):=by
 have R:=Rel.refl c;unfold mF;cases a with
 | cell u x=>exact LT.bif (LT.ret R)
 | ptr b aY p =>
   ((try dsimp only);split<;>first|exact LT.fail|(rename_i e;rw[(c b) _ e];try dsimp only))
   exact LT.bif (LT.bind λx _=>LT.bif (LT.ret R))
 | _=>exact LT.fail
def Qi{ra qu}(R:Rel b4 cM ra qu){b aY p fit v}:LT cM af (storeAt b aY p fit v ra) (storeAt b aY p fit v qu):=by
 unfold storeAt
 ((try dsimp only);split<;>first|exact LT.fail|(rename_i e;rw[(R.le b) _ e];try dsimp only))
 exact LT.bif (LT.bind λx _=>LT.bif (LT.bind λc _=>LT.store (R.trans<|Rel.cd R.le)))
def LT.aqT{c t u b e}(h:LT cM d t u)(f:LT cM d b e):LT cM d (bif c then t else b) (bif c then u else e):=by cases c<;>first|exact f|exact h
def abX{ra qu}(R:Rel b4 cM ra qu){b aY p n v}:LT cM af (u6 b aY p n v ra) (u6 b aY p n v qu):=by
 unfold u6
 ((try dsimp only);split<;>first|exact LT.fail|(rename_i e;rw[(R.le b) _ e];try dsimp only))
 exact LT.bif (LT.bind λx _=>LT.bif (LT.bind λc _=>LT.bif (LT.store<|R.trans<|Rel.cd R.le)))
def Wj(c:Le b4 cM){bf ty a v}:LT cM af (mY cx bf ty a v b4) (mY cx bf ty a v cM):=by
 have R:=Rel.refl c;unfold mY;cases a with
 | ptr b aY p =>
   ((try dsimp only);split<;>first|exact LT.fail|(rename_i e;rw[(c b) _ e];try dsimp only))
   refine LT.bif (LT.bind λf _=>?_);split
   .refine LT.bif (LT.aqT (abX R) ?_);split;{rename_i y ra g;obtain⟨qu,h,i⟩:=FK c g;rw[h];exact Qi i}
    .exact LT.fail
   .exact LT.bif (Qi R)
 | _=>exact LT.fail
def afv{n lo hi}(b:∀x∈lo.toList++hi.toList,dm b4 x=dm cM x):bounds b4 n lo hi=bounds cM n lo hi:=by unfold bounds;grind
def Wk(e:Le b4 cM){ty x lo hi}(i:∀x∈lo.toList++hi.toList,dm b4 x=dm cM x):LT cM d (mZ cx d ty x lo hi b4) (mZ cx d ty x lo hi cM):=by
 have R:=Rel.refl e;have b:∀n,bounds b4 n lo hi=bounds cM n lo hi:=λn=>afv i;unfold mZ;split
 .rename_i s _;rw[b]
  ((try dsimp only);split<;>first|exact LT.fail|skip)
  exact LT.jw (LT.ret R)
 .rw[b];refine LT.bif ?_
  ((try dsimp only);split<;>first|exact LT.fail|skip)
  exact LT.jw (LT.ret R)
 .rename_i u c f l n _
  ((try dsimp only);split<;>first|exact LT.fail|(rename_i g;rw[(e c) _ g];try dsimp only))
  refine LT.bif ?_;rw[b]
  ((try dsimp only);split<;>first|exact LT.fail|skip)
  exact LT.jw (LT.ret R)
 .rename_i u c f _
  ((try dsimp only);split<;>first|exact LT.fail|(rename_i g;rw[(e c) _ g];try dsimp only))
  refine LT.bif ?_;split
  .refine LT.bif ?_;split;{exact LT.ret R}
   rw[b]
   ((try dsimp only);split<;>first|exact LT.fail|skip)
   exact LT.jw (LT.ret R)
  exact LT.fail
 .rw[b];refine LT.YV (λh=>?_) ?_;{simp at h⊢;exact⟨tf e h.1,h.2⟩}
  ((try dsimp only);split<;>first|exact LT.fail|skip)
  exact LT.jw (LT.ret R)
 .rename_i m u c f _
  ((try dsimp only);split<;>first|exact LT.fail|(rename_i g;rw[(e c) _ g];try dsimp only))
  refine LT.bif ?_;split
  .rw[b];refine LT.bif ?_
   ((try dsimp only);split<;>first|exact LT.fail|skip)
   exact LT.jw (LT.ret R)
  exact LT.fail
 exact LT.fail
def aiD(c:Le b4 cM){b aY i}:∀{m k},LT cM d (Pw d b aY b4 i m k) (Pw d b aY cM i m k):=by intro m;induction m with|zero=>exact LT.fail|succ m e=>exact LT.node (LT.ret<|Rel.refl c) e
def Br(b:Le b4 cM){ty x i}:LT cM d (eL cx d ty x i b4) (eL cx d ty x i cM):=by
 have R:=Rel.refl b;unfold eL;split
 .exact LT.bif (LT.look λ_=>LT.ret R)
 .exact LT.bif (LT.look λ_=>LT.ret R)
 ·((try dsimp only);split<;>first|exact LT.fail|(rename_i c;rw[((λr e=>Qh b e)) _ c];try dsimp only))
  exact LT.bif (LT.jw<|LT.ret R)
 ·((try dsimp only);split<;>first|exact LT.fail|(rename_i c;rw[((λr e=>Qh b e)) _ c];try dsimp only))
  exact LT.bif (LT.jw<|LT.ret R)
 .exact LT.YV (tf b) (LT.jw<|LT.ret R)
 {split;{refine LT.YV (λh=>?_) (aiD b);simp at h⊢;exact⟨h.1,tf b h.2⟩};exact LT.fail};exact LT.fail
def Wl(b:Le b4 cM){ty x i}:LT cM d (na cx d ty x i b4) (na cx d ty x i cM):=by
 unfold na;split
 {refine LT.YV (λh=>?_) ?_;{simp at h⊢;exact⟨h.1,tf b h.2⟩};split;{exact LT.bif (LT.ret<|Rel.refl b)};exact LT.fail};exact Br b
def Wm(b:Le b4 cM){ty x i}:LT cM d (nc cx d ty x i b4) (nc cx d ty x i cM):=by
 have R:=Rel.refl b;unfold nc;split
 .exact LT.look λ_=>LT.ret R
 {exact LT.bif (LT.look λ_=>LT.ret R)};exact LT.fail
def KU(b:Le b4 cM){s x k}:LT cM d (fl cx d s x k b4) (fl cx d s x k cM):=by
 have R:=Rel.refl b;unfold fl;split
 .refine LT.bif ?_;split;{exact LT.ret R};exact LT.fail
 {refine LT.YV (tf b) ?_;split;{split;{exact LT.ret R};exact LT.fail};split;{split;{exact LT.ret R};exact LT.fail};exact LT.fail};exact LT.fail
def Qj(b:Le b4 cM)(c:∀k,d=aa k->b4.mem (nb+k)=cM.mem (nb+k)){s t x}:LT cM d (iz cx nb d s t x b4) (iz cx nb d s t x cM):=by
 have R:=Rel.refl b;unfold iz;split
 .exact LT.ret R
 .exact LT.ret R
 .split;{exact LT.jw (LT.bH b<|c _ rfl)};exact LT.fail
 ·((try dsimp only);split<;>first|exact LT.fail|(rename_i e;rw[((λr f=>FJ b f)) _ e];try dsimp only))
  exact LT.ret R
 exact LT.fail
def GP(c:Le b4 cM)(h:∀k,d=aa k->b4.mem (nb+k)=cM.mem (nb+k)){ty s x}:LT cM d (iP cx nb d ty s x b4) (iP cx nb d ty s x cM):=by
 unfold iP;split
 .rename_i k e _
  ((try dsimp only);split<;>first|exact LT.fail|(rename_i f;rw[((λr (i:_=aa r)=>aft c i)) _ f];try dsimp only))
  split;{exact LT.jw (LT.bH c<|h _ rfl)};{rename_i b j;cases f:b4.mem b with|none=>exact LT.fail|some g =>rw[c b g f];cases m:jx e b4 _ with|none=>exact LT.fail|some l =>rw[FJ c m];simp only;cases (g.lk||!anq cx ty g.tid) with|true=>exact LT.fail|false=>exact LT.jw (LT.abW<|Rel.cd c)};exact LT.fail
 exact LT.fail
def afw(c:Le b4 cM){f args}(h:find cx.con f≠af):LT cM d (Au cx Ee d f args b4) (Au cx inl d f args cM):=by
 unfold Au;split
 .split
  .have key:∀{A vs x},jm b4 A vs=aa x->jm cM A vs=aa x:=by intro A;induction A with|pair t r i e =>(intro vs x b;cases vs with|nil=>cases b|cons v vs =>simp only[jm] at b⊢;split at b;{rename_i p q j g;rw[ad8 c j,e g];exact b};cases b)|unit=>intro vs x b;cases vs<;>exact b|_=>intro vs x b;cases vs<;>cases b
   ((try dsimp only);split<;>first|exact LT.fail|(rename_i g;rw[((λr (k:_=aa r)=>key k)) _ g];try dsimp only))
   exact LT.look λ_=>LT.ret (Rel.refl c)
  split;{rename_i x ra l;obtain⟨qu,m,n⟩:=HG c l;rw[m];exact LT.look λ_=>LT.ret n};exact LT.fail
 grind
def LT.ad9{ra qu}(R:Rel b4 cM ra qu){k b}(e:b4.mem b=cM.mem b){val tid buf}{v:Nat->cw} :
  LT cM (aa k) (ra.bH b val tid buf λc σ=>.ret (σ.put k<|v c)) (qu.bH b val tid buf λc σ=>.ret (σ.put k<|v c)):=by
 have f:ra.mem b=qu.mem b:=by rw[R.m b];cases h:ra.mem b with|some x=>rfl|none=>rw[<-e,R.nv b h]
 unfold St.bH;rw[<-f];cases ra.mem b with|none=>exact LT.abW (R.trans<|Rel.cd R.le)|some g =>simp only;cases g.lk with|true=>exact LT.fail|false=>exact LT.abW (R.trans<|Rel.cd R.le)
def Wn(b:Le b4 cM)(c:∀k,d=aa k->b4.mem (nb+k)=cM.mem (nb+k)){e args}:LT cM d (nd nb e d args b4) (nd nb e d args cM):=by
 unfold nd;split
 {split;{rename_i l ra f;obtain⟨qu,g,h⟩:=FK b f;rw[g];exact LT.bif (LT.jw<|LT.ad9 h<|c _ rfl)};exact LT.fail};exact LT.fail
def afx{ra qu}(h:Le ra qu){e v r}(c:Cf e ra v=aa r):Cf e qu v=aa r:=by cases v with|part b aY lo n =>(simp only[Cf] at c⊢;cases f:ra.mem b with|none=>rw[f] at c;cases c|some g=>rw[f] at c;rw[h b g f];exact c)|whole b aY =>(simp only[Cf] at c⊢;cases f:ra.mem b with|none=>rw[f] at c;cases c|some g=>rw[f] at c;rw[h b g f];exact c)|_=>cases c
def abY(f:Le b4 cM){e A res spec args}:LT cM d (u9 e A res spec d args b4) (u9 e A res spec d args cM):=by
 unfold u9;split
 {split;{rename_i x ra h;obtain⟨qu,i,c⟩:=HG f h;rw[i];simp only;split;{rename_i b j m l g;rw[afx c.le g];refine LT.look λn=>?_;cases res with|true =>(cases d with|none=>exact LT.fail|some k=>exact LT.abW (c.trans<|Rel.cd c.le))|false=>cases d<;>exact LT.bif (LT.ret<|c.trans<|Rel.cd c.le)};exact LT.fail};exact LT.fail};exact LT.fail
def abZ(b:Le b4 cM)(h:∀k,d=aa k->b4.mem (nb+k)=cM.mem (nb+k)){f args}(c:As cx bf d f=af->find cx.con f≠af\/(find cx.con f=af/\∃e,find cx.XY f=aa (.clone e)))(i:∀s,As cx bf d f=aa s->(∃e,s=.clone e)\/∃e A r q,s=.own e A r q) :
  LT cM d (xz cx nb bf Ee d f args b4) (xz cx nb bf inl d f args cM):=by
 unfold xz;split
 .exact Wn b h
 .exact abY b
 .rename_i m n;have j:As cx bf d f=none:=by
   cases o:As cx bf d f with
   | none=>rfl
   | some s =>
     simp_all
  rcases c j with g|⟨g,e,l⟩
  .exact afw b g
  .unfold Au;rw[g,l];exact LT.fail
def YY{s f}(h:As cx bf d f=aa s):(∃e,s=.clone e)\/∃e A r q,s=.own e A r q:=by unfold As at h;grind
def afy:∀{ps k},(∀x∈ps.map (·.2),dm b4 x=dm cM x)->Ec b4 k ps=Ec cM k ps:=by intro ps;induction ps with|nil=>intro k _;rfl|cons p r b =>simp only[Ec];grind
def YZ{fs}:∀{ps v},(∀x∈ps.map (·.2),dm b4 x=dm cM x)->sT b4 fs v ps=sT cM fs v ps:=by intro ps;induction ps with|nil=>intro v _;rfl|cons p r b =>intro v h;simp only[sT];simp_all
def afz(C:Le b4 cM){o:Oper}{ge:Option Nat}(hge:sX o cM=ge)(I:cls cx ge o≠3)(j:∀x∈iA o.op,dm b4 x=dm cM x)(F:∀k,o.dst=aa k->b4.mem (nb+k)=cM.mem (nb+k)) :
  LT cM o.dst (sV cx nb bf Ee o b4) (sV cx nb bf inl o cM):=by
 have R:=Rel.refl C;unfold sV;cases D:o.op with
 | move x=>simp only[D,iA] at j⊢;rw[j x aW];exact GO C F
 | assign x=>simp only[D,iA] at j⊢;rw[j x aW];exact GO C F
 | pick c a b=>simp only[D,iA] at j⊢;rw[j c aW,j a aW,j b aW];exact YW C
 | alloc e =>simp only;split;{rename_i k t E hT;rw[E];unfold yf;split;{exact absurd (by simp[cls,D,hT]) I};exact LT.bH C (F k E)};{rename_i k E hT;rw[E];split;{rename_i V;exact absurd (by simp[cls,D,hT,V]) I};exact LT.bif (LT.bH C<|F k E)};exact LT.fail
 | box e x =>simp only[D,iA] at j⊢;rw[j x aW];cases E:o.dst with|none=>exact LT.fail|some k =>(have V:find cx.uu e=none:=by cases V:find cx.uu e with|none=>rfl|some fs=>exact absurd (by simp[cls,D,V]) I);cases dm cM x<;>simp only[IC,V]<;>first|exact LT.fail|exact LT.bH C (F k E)
 | build t ps =>simp only[D] at j⊢;split;{split;{rename_i L;obtain⟨qu,M,K⟩:=Ta C j L;rw[M];exact LT.ret K};exact LT.fail};{split;{rename_i L;obtain⟨qu,M,K⟩:=Jg C j L;rw[M];exact LT.ret K};exact LT.fail};{split;{split;{rw[YZ j];split;{exact LT.ret R};{exact LT.ret R};exact LT.fail};exact LT.fail};exact LT.fail};exact LT.fail
 | buildSlice t n ps =>simp only[D] at j⊢;split;{split;{rename_i k W Z;have E:=(HE W).1;rw[E];exact LT.bH C (F k E)};refine LT.bif ?_;split;{rename_i L;obtain⟨qu,M,K⟩:=Jg C j L;rw[M];split;{rename_i k E;rw[zI E];exact LT.ad9 K (F k<|zI E)};exact LT.ret K};exact LT.fail};{unfold FD;rw[afy j];split;{rename_i k e v E _ _;rw[E];exact LT.bif (LT.bH C<|F _ E)};exact LT.fail};exact LT.fail
 | load t a=>simp only[D,iA] at j⊢;rw[j a aW];exact YX C
 | store t a x =>simp only[D,iA] at j⊢;rw[j a aW,j x aW];cases E:o.dst with|none=>exact Wj C|some k=>exact LT.fail
 | nilCheck x =>simp only[D,iA] at j⊢;rw[j x aW];cases dm cM x with|ptr b aY p=>exact LT.YV (tf C) (LT.ret R)|cell t x=>exact LT.ret R|fn f c=>exact LT.ret R|_=>exact LT.fail
 | binOp op xt x y yt =>(simp only[D,iA] at j⊢;rw[j x aW,j y aW];intro z hz;obtain⟨v,X,h2⟩:=bind_some hz;have F:(ah7 cM (find cx.T xt) (du cx.Bf xt) op (dm cM x)<|dm cM y).run=aa v:=by unfold ah7 at X⊢;split at X;{obtain⟨G,I⟩:=aD X;simp only[gC] at G;rw[tf C G.1,G.2];exact I};{obtain⟨G,I⟩:=aD X;simp at G;rw[tf C G.1,G.2];exact I};exact X);rw[Tree.run_bind,F];exact LT.ret R z h2
 | unOp op t x=>simp only[D,iA] at j⊢;rw[j x aW];exact LT.bind λ_ _=>LT.ret R
 | convert s t x=>simp only[D,iA] at j⊢;rw[j x aW];exact Qj C F
 | makeFunc fn first H =>simp only[D] at j⊢;cases fn with|func f =>simp only;have:H.toList.map _=H.toList.map (dm cM):=Pd λx hx=>j x (M8 _ hx);rw[this];split;{exact LT.ret R};exact LT.fail|_=>exact LT.fail
 | slice t x lo hi m =>simp only[D,iA] at j⊢;cases m with|some m=>exact LT.fail|none =>simp only;rw[j x aW];exact Wk C λy hy=>j y (wG _ hy)
 | fieldAddr s x k=>simp only[D,iA] at j⊢;rw[j x aW];exact KU C
 | field xt x k =>simp only[D,iA] at j⊢;rw[j x aW];split;{refine LT.bif ?_;split;{exact LT.ret R};exact LT.fail};exact LT.fail
 | indexAddr t x i =>simp only[D,iA] at j⊢;rw[j x aW,j i aW];split;{cases du bf 5000000 with|true=>exact Wl C|false=>exact Br C};exact LT.fail
 | index t x i =>simp only[D,iA] at j⊢;rw[j x aW,j i aW];split;{exact Wm C};exact LT.fail
 | makeSlice t l c =>simp only[D,iA] at j⊢;rw[j l aW,j c aW];cases E:o.dst with|none=>exact LT.fail|some k =>split;{rename_i k' _ _ _ _ _ hk' _ _ _;obtain rfl:=aU hk';exact LT.jw (LT.jw<|LT.bH C<|F k E)};exact LT.fail
 | extract t k =>
   simp only[D,iA] at j⊢;rw[j t aW];split
   ·((try dsimp only);split<;>first|exact LT.fail|skip)
    exact LT.ret R
   exact LT.fail
 | call c =>
   simp only[D,iA] at j⊢;have S:c.args.toList.map _=c.args.toList.map (dm cM):=Pd λx hx=>j x (M8 _ hx);unfold yq;rw[S];cases G:c.callee with
   | builtin b =>
     simp only;split
     .rename_i x t _ _;cases ad1 _ x with
      | true =>
        ((try dsimp only);split<;>first|exact LT.fail|(rename_i hq;rw[((λr (hr:_=aa r)=>aiC C hr)) _ hq];try dsimp only))
        exact LT.ret R
      | false =>
        simp;split
        .refine LT.YV (λh=>?_) (LT.ret R);simp at h⊢;exact⟨tf C h.1,h.2⟩
        .exact LT.fail
     .split
      .exact GP C F
      .exact GP C F
      .exact LT.fail
     .exact absurd (by simp[cls,D,G]) I
     .exact absurd (by simp[cls,D,G]) I
     .exact LT.bind λ_ _=>LT.ret R
     .exact LT.bind λ_ _=>LT.ret R
     .exact LT.fail
   | value f =>
     simp only;rw[j f<|by rw[G];simp];split
     .rename_i g H j;have U:(H.all λb=>live b4 b.1 b.2)=true->_=true:=λh=>by
       rw[wH] at h⊢;exact λb hm=>tf C (h b hm)
      refine LT.YV U (abZ C F (λhq=>?_) λs hs=>YY hs);have Y:ge=aa g:=by rw[<-hge];simp[sX,D,G,j]
      cases O:find cx.con g with
      | some c=>exact .inl aW
      | none =>
        refine .inr ⟨rfl,?_⟩;cases J:find cx.XY g with
        | none=>exact absurd (by simp[cls,D,G,Y,O,J]) I
        | some s =>
          cases s with
          | clone e=>exact⟨e,rfl⟩
          | own e A r q=>simp[As,J] at hq
          | _=>exact absurd (by simp[cls,D,G,Y,O,J]) I
     .exact LT.fail
   | invoke r m =>
     simp only;rw[j r<|by rw[G];simp];unfold uK;split
     .split
      .rename_i L;obtain⟨qu,M,K⟩:=HG C L;rw[M];exact LT.look λ_=>LT.ret K
      .exact LT.fail
     .exact LT.fail
 | makeInterface u x =>
   simp only[D,iA] at j⊢;rw[j x aW];unfold uJ;split
   .split
    .split
     .rename_i L;obtain⟨qu,M,K⟩:=FK C L;rw[M];exact LT.ret K
     .exact LT.fail
    .exact LT.fail
   .exact LT.fail
 | _=>exact LT.fail
end
end Go.Ge
namespace Go.Ge
open RowKit
def qv{l t}:du l t=true↔t∈l:=by induction l with|nil=>simp[du]|cons i r b =>simp only[du,Iw,eK,b];constructor;{rintro(h|h);{exact .inl (iN h)};exact .inr h};rintro(h|h);{subst h;exact .inl aW};exact .inr h
def ko{l t}:du l t=false↔t∉l:=by rw[<-qv];simp
def ab0{l}{t:Nat}(h:Operand.tmp t∈l):t∈tmpsOf l:=by induction l with|nil=>cases h|cons x r c =>rcases eK.1 h with b|b;{subst b;exact pg ..};clear h;have h:=b;cases x<;>simp only[tmpsOf];(case tmp k=>exact wG _ (c h));all_goals exact c h
section
variable {cx:Ctx} {nb:Nat} {bf:List Nat} {inl:Nat->List cw->St->Tree (cw×St)} {σ bb τ:St}
structure Y0 (cx:Ctx) (nb:Nat) (o:Oper) (fp:Fp):Prop where
 own:∀k,o.dst=aa k->nb+k∈fp.rd
 sub:∀b∈fp.wr,b∈fp.rd
 w1:cls cx fp.fn o≠0->∀k,o.dst=aa k->nb+k∈fp.wr
 w2:cls cx fp.fn o≠0->cls cx fp.fn o≠1->∀b∈fp.rd,b∈fp.wr
 c3:cls cx fp.fn o≠3
def OC o σ (h:(Ed cx nb o σ).Ov=false):Y0 cx nb o (Ed cx nb o σ):=by
 have c:∀k,o.dst=aa k->nb+k∈Go.Ge.own nb o:=λk e=>by simp[Go.Ge.own,e]
 unfold Ed at h⊢;dsimp only at h⊢;split at h<;>rename_i g
 .exact⟨λk e=>Gm _ (c k e),λb f=>(nomatch f),λi=>absurd g i,λi=>absurd g i,by rw[g];decide⟩
 .exact⟨λk e=>Gm _ (c k e),λb f=>Gm _ f,λ_ k e=>c k e,λ_ j=>absurd g j,by rw[g];decide⟩
 {exact⟨λk e=>Gm _ (c k e),λb f=>f,λ_ k e=>Gm _ (c k e),λ_ _ b f=>f,by rw[g];decide⟩};cases h
def alg{ts rd}:Le { (σ.only ts rd) with bw:=σ.bw } σ:=λb f c=>by simp only[St.only] at c;cases e:du rd b with|true=>rw[e] at c;exact c|false=>rw[e] at c;cases c
def Y1{ts rd}:Le (σ.only ts rd) σ:=λb c e=>alg (ts:=ts) b c e
def Y2{l rd x}(b:x∈l):dm (σ.only (tmpsOf l) rd) x=dm σ x:=by cases x with|tmp t =>have:=qv.2 (ab0 b);simp only[dm,St.only,this,B9]|_=>rfl
def alh{a b}(h:aoQ a b=true):a=b:=by cases a<;>cases b<;>first|rfl|cases h|exact congrArg aa (iN h)
def Tb o rd:sX o (σ.only (tmpsOf<|iA o.op) rd)=sX o σ:=by
 unfold sX;split
 {rename_i c b;split;{rename_i x e;rw[Y2<|by rw[b];simp[iA,e]]};rfl};rfl
def FL{fp o}(f:fp.Ov=false->Y0 cx nb o fp)(i:(jo cx nb bf inl fp o σ).run=aa bb):(sV cx nb bf inl o σ).run=aa bb:=by unfold jo at i;cases c:fp.Ov with|true=>rw[c] at i;exact i|false =>have f:=f c;rw[c] at i;obtain⟨τ,g,u⟩:=bind_some i;obtain rfl:=aU u;obtain⟨e,g⟩:=aD g;have e:=alh e;have v:=afz (inl:=inl) Y1 (by rw[<-e];exact(Tb ..).symm) f.c3 (λx y=>Y2 y) (λk n=>by simp only[St.only,qv.2 (f.own k n),B9]) τ g;(rw[v];have hC:=abU e f.c3 (λq k n=>f.w1 q k n) (λq g b r=>by refine f.w2 q g b ?_;simp only[St.only] at r;cases j:du fp.rd b with|true=>exact qv.1 j|false=>rw[j] at r;exact absurd rfl r) τ g);(have j:(λb=>match τ.mem b with|some x=>aa x|none=>σ.mem b)=λb=>bif du fp.wr b then τ.mem b else σ.mem b:=by (funext b;have s:b∈fp.rd->(σ.only (tmpsOf<|iA o.op) fp.rd).mem b=σ.mem b:=λh=>by simp only[St.only,qv.2 h,B9]);cases t:du fp.wr b with|true =>(simp;cases l:τ.mem b with|some x=>rfl|none =>rw[<-s (f.sub b<|qv.1 t)];rcases hC b with k|k;{rw[<-k,l]};exact absurd l k.1)|false =>rcases hC b with k|k;{rw[k];cases l:(σ.only _ fp.rd).mem b with|none=>rfl|some x=>exact(Y1 b x l).symm};exact absurd k.2 (ko.1 t));exact congrArg (λm=>aa _) j
def FM{a b}(h:afd a b=true){x}(c:x∈a):x∉b:=by simp only[afd,wH,Hr] at h;exact ko.1 (h x c)
def apart_spec{x y f g}(h:apart x y f g=true):f.Ov=false/\g.Ov=false/\(∀b∈f.wr,b∉g.rd)/\(∀b∈g.wr,b∉f.rd) /\
  (∀d,x.dst=aa d->d∉tmpsOf (iA y.op))/\(∀d,y.dst=aa d->d∉tmpsOf (iA x.op))/\(∀d e,x.dst=aa d->y.dst=aa e->d≠e):=by
 simp only[apart,gC,Hr] at h;obtain⟨⟨⟨⟨⟨l,m⟩,n⟩,o⟩,c⟩,j⟩:=h;refine⟨l,m,λb k=>FM n k,λb k=>FM o k,λd i=>?_,λd i=>?_,λd e i r=>?_⟩
 .rw[i] at c;simp at c;exact ko.1 c.1
 .rw[i] at j;simp at j;exact ko.1 j
 .rw[i,r] at c;intro q;subst q;simp at c
def Jh{d wr ts rd}(f:∀k,d=aa k->k∉ts)(g:∀b∈wr,b∉rd):(lay σ d wr τ).only ts rd=σ.only ts rd:=by
 unfold St.only lay;congr 1
 {funext t;cases c:du ts t with|false=>rfl|true =>cases d with|none=>rfl|some k =>have:t≠k:=λe=>f k rfl (by rw[<-e];exact qv.1 c);simp[kn this]};funext b;cases c:du rd b with|false=>rfl|true =>have:=λh=>g b h (qv.1 c);simp[ko.2 this]
def aiE{h g f i b4 cM}(j:apart h g f i=true)(l:∀b∈f.wr,b∈f.rd)(m:(jo cx nb bf inl f h σ).run=aa b4)(n:(jo cx nb bf inl i g b4).run=aa cM) :
  ∃c,(jo cx nb bf inl i g σ).run=aa c/\(jo cx nb bf inl f h c).run=aa cM:=by
 obtain⟨x,y,z,u,A,C,D⟩:=apart_spec j;unfold jo at m n⊢;simp only[x,y,zw] at m n⊢;obtain⟨E,F,G⟩:=bind_some m;obtain rfl:=aU G;obtain⟨o,v,H⟩:=bind_some n;obtain rfl:=aU H;rw[Jh A z] at v;refine⟨lay σ g.dst i.wr o,by rw[Tree.run_bind,v];rfl,?_⟩;rw[Jh C u,Tree.run_bind,F];show aa _=aa _
 congr 1
 unfold lay
 congr 1
 .cases hi:h.dst with
  | none=>rfl
  | some k =>
    cases I:g.dst with
    | none=>rfl
    | some e =>
      have q:=D k e hi I;funext t;by_cases r:t=k
      .subst r;simp[kn q]
      .by_cases K:t=e
       .simp[kn r]
       .simp[kn r]
 .funext b;dsimp only;cases s:du f.wr b with
  | false=>rfl
  | true =>
    have:=λJ=>u b J (l b<|qv.1 s);simp[ko.2 this]
inductive Reach (ops:Array Oper):Nat->Nat->Prop where
 | step {i:Nat} {o:Oper} {e:Edge} (h:ops[i]?=aa o) (he:e∈o.after) (hb:Region.binds .any e=true):Reach ops i e.on
 | more {i k:Nat} {o:Oper} {e:Edge} (h:ops[i]?=aa o) (he:e∈o.after) (hb:Region.binds .any e=true) (r:Reach ops e.on k):Reach ops i k
def Wo(c:Array Oper)(b:Array Bool):Prop:=∀i o e,b.getD i false=true->c[i]?=aa o->e∈o.after->Region.binds .any e=true->b.getD e.on false=true
def Reach.listed{ops listed}(f:Wo ops listed){i k}(h:Reach ops i k):listed.getD i false=true->listed.getD k false=true:=by induction h with|step h b c=>exact λe=>f _ _ _ e h b c|more h b c r g=>exact λe=>g (f _ _ _ e h b c)
def Reach.ready{ops listed}(g:Wo ops listed){i k}(h:Reach ops i k)(j:i∈Region.ready .any ops listed):listed.getD k false=true:=by obtain⟨_,o,f,b⟩:=mem_ready.1 j;cases h with|step h c e =>(obtain rfl:=aU (f.symm.trans h);exact b _ c e)|more h c e r =>obtain rfl:=aU (f.symm.trans h);exact r.listed g (b _ c e)
def Wo.list{ops listed}(r:Wo ops listed){i}(s:i∈Region.ready .any ops listed):Wo ops (listed.setIfInBounds i true):=by
 obtain⟨_,t,c,b⟩:=mem_ready.1 s;have up:∀k,listed.getD k false=true->(listed.setIfInBounds i true).getD k false=true:=by intro k g;by_cases e:i=k;{subst e;rcases xy i listed.size with f|f;{simp[f]};simp[X4 f] at g};rw[getD_set_ne false e];exact g
 intro j o e h l m n;by_cases q:i=j
 {subst q;obtain rfl:=aU (c.symm.trans l);exact up _ (b e m n)};rw[getD_set_ne false q] at h;exact up _ (r j o e h l m n)
def Y3{b:Array Bool}{i}(f:b.getD i true=false)(c:b.getD i false=true):False:=by
 rcases xy i b.size with e|e
 {simp[e] at f c;rw[f] at c;cases c};simp[X4 e] at c
def vf(e:Array Oper)(c:List Yt):Prop:=∀k,∀b,Nat.testBit (maskAt c k) b=true->Reach e k b
def HH{ops done}(n:vf ops done){i o}(k:ops[i]?=aa o){b}(h:Nat.testBit (mask done o) b=true):Reach ops i b:=by
 have key:∀l,(∀e∈l,e∈o.after)->Nat.testBit (yg done l) b=true->Reach ops i b:=by intro l;induction l with|nil=>intro _ h;simp[yg] at h|cons e r m =>intro f h;simp only[yg] at h;cases g:Region.binds .any e with|false=>rw[g] at h;exact m (λj c=>f j (wG _ c)) h|true =>rw[g] at h;simp at h;rcases h with (h|h)|h;{exact m (λj c=>f j (wG _ c)) h};{(rw[Nat.testBit_two_pow] at h;have:e.on=b:=by simpa using h);subst this;exact .step k (f e<|pg ..) g};exact .more k (f e<|pg ..) g (n _ _ h)
 exact key _ (λe q=>by simpa using q) h
def vf.nil{ops}:vf ops []:=λk b h=>by simp[maskAt] at h
def vf.cons{ops done}(e:vf ops done){i o f}(g:ops[i]?=aa o):vf ops ((i,o,f,mask done o)::done):=by intro k b h;simp only[maskAt] at h;cases c:Nat.beq i k with|true =>(rw[c] at h;obtain rfl:=iN c;exact HH e g h)|false=>rw[c] at h;exact e k b h
def aiF(c:Ctx)(e:Nat)(f:List Nat)(inl:Nat->List cw->St->Tree (cw×St))(b:Array Oper)(g:Nat->Fp)(Q:St->Prop):Nat->Array Bool->St->Prop|0,listed,σ=>Region.ready .any b listed=[]/\Q σ|n+1,listed,σ=>(Region.ready .any b listed=[]->Q σ) /\∀i∈Region.ready .any b listed,∃o bb,b[i]?=aa o/\o.guard=af/\(jo c e f inl (g i) o σ).run=aa bb/\aiF c e f inl b g Q n (listed.setIfInBounds i true) bb
variable {ops:Array Oper} {fp:Nat->Fp} {Q:St->Prop}
def ab1{i o}(E:ops[i]?=aa o)(u:o.guard=af)(v:∀b∈(fp i).wr,b∈(fp i).rd):∀n c σ b4,
  Wo ops c->(∀j s,ops[j]?=aa s->j≠i->c.getD j true=false->Reach ops j i\/apart o s (fp i) (fp j)=true) ->i∈Region.ready .any ops c->(jo cx nb bf inl (fp i) o σ).run=aa b4->aiF cx nb bf inl ops fp Q n (c.setIfInBounds i true) b4->aiF cx nb bf inl ops fp Q (n+1) c σ:=by
 intro n;induction n with|zero =>intro c σ b4 f g q A H;refine⟨λh=>(by rw[h] at q;cases q),λj t=>?_⟩;by_cases e:j=i;{subst e;exact⟨o,b4,E,u,A,H⟩};have:=ready_mono t e;rw[H.1] at this;cases this|succ n I =>intro c σ b4 f g q A H;refine⟨λh=>(by rw[h] at q;cases q),λj t=>?_⟩;by_cases e:j=i;{subst e;exact⟨o,b4,E,u,A,H⟩};(obtain⟨s,cM,x,C,J,K⟩:=H.2 j (ready_mono t e);obtain⟨l,L,F,G⟩:=mem_ready.1 t;have r:apart o s (fp i) (fp j)=true:=by rcases g j s x e l with M|r;{exact(Y3 (mem_ready.1 q).1<|M.ready f t).elim};exact r);obtain⟨m,O,R⟩:=aiE r v A J;refine⟨s,m,x,C,O,I _ m cM (f.list t) (λk S T D y=>g k S T D ?_) (ready_mono q<|Pr e) R ?_⟩;{by_cases z:j=k;{subst z;exact l};rw[getD_set_ne true z] at y;exact y};rw[amX _ _ e];exact K
end
end Go.Ge
namespace Go.Ge
open RowKit
section
variable {P:Program} {B:DW} {N:Nat} {γ:Gh} {cx:Ctx} {nb:Nat} {bf:List Nat} {inl:Nat->List cw->St->Tree (cw×St)} {σ bb τ:St} {ops:Array Oper} {fp:Nat->Fp}
def ali(f:Ctx)(g:Nat)(h:List Nat)(inl:Nat->List cw->St->Tree (cw×St))(c:Array Oper)(b:Nat->Fp):Nat->List Oper->St->St->Prop|_,[],σ,bb=>σ=bb|k,o::l,σ,bb=>o.guard=af/\((b k).Ov=false->Y0 f g o (b k))/\((b k).Ov=true->(b k).wr=[])/\(∀e∈o.after,Region.binds .any e=true->e.on<k) /\(∀j i,l[j]?=aa i->Reach c (k+1+j) k\/apart o i (b k) (b<|k+1+j)=true) /\∃b4,(jo f g h inl (b k) o σ).run=aa b4/\ali f g h inl c b (k+1) l b4 bb
def Qk{o f b k m mk ok r}(h:loose o f m ((k,ok,b,mk)::r)=true):(Nat.testBit m k=true\/apart ok o b f=true)/\loose o f m r=true:=by simp only[loose,gC,Iw] at h;exact h
def aiG o σ (h:(Ed cx nb o σ).Ov=true):(Ed cx nb o σ).wr=[]:=by
 unfold Ed at h⊢;dsimp only at h⊢;split at h<;>first|cases h|skip
 rfl
def Wp:∀l k c σ,(∀j o,l[j]?=aa o->ops[k+j]?=aa o)->vf ops c->(Py cx nb bf inl (number k l) c σ).run=aa bb ->
  ∃n:List (Fp×Nat),n.length=l.length/\(∀j m b,n[j]?=aa m->Nat.testBit m.2 b=true->Reach ops (k+j) b) /\∀fp,(∀j f,n[j]?=aa f->fp (k+j)=f.1)->ali cx nb bf inl ops fp k l σ bb/\∀j o f,l[j]?=aa o->n[j]?=aa f->loose o (fp<|k+j) f.2 c=true:=by
 intro l;induction l with|nil =>intro k c σ _ _ h;exact⟨[],rfl,λj m b h=>absurd h aW,λfp _=>⟨aU h,λj o f g=>absurd g aW⟩⟩|cons o l E =>intro k c σ x y h;simp only[number,Py] at h;split at h;{cases h};rename_i F;obtain⟨u,G⟩:=aD h;obtain⟨b4,H,I⟩:=bind_some G;simp only[gC] at u;have z:=x 0 o rfl;obtain⟨n,A,C,J⟩:=E _ _ b4 (λj v g=>by have:=x (j+1) v (by simpa using g);rw[<-this];congr 1;omega) (y.cons z) I;refine⟨(Ed cx nb o σ,mask c o)::n,by simp[A],λj m b g i=>?_,λfp r=>?_⟩;{cases j with|zero=>(obtain rfl:=aU g;exact HH y z i)|succ j=>have:=C j m b (by simpa using g) i;rw[show k+_=k+1+j by omega];exact this};(have s:fp k=Ed cx nb o σ:=r 0 _ rfl;obtain⟨K,D⟩:=J fp λj f g=>by have:=r (j+1) f (by simpa using g);rw[<-this];congr 1;omega);refine⟨⟨F,λi=>by rw[s] at i⊢;exact OC o σ i,λi=>by rw[s] at i⊢;exact aiG o σ i,λe L i=>?_,λj M g=>?_,b4,by rw[s];exact H,K⟩,λj v f g t=>?_⟩;{have:=u.2;rw[<-Array.all_toList,wH] at this;have:=this e (by simpa using L);rw[i] at this;have:=M7 (by simpa [Nat.blt] using this);omega};{obtain⟨f,t⟩:∃f,n[j]?=aa f:=⟨_,gQ (by rw[A];exact(ga.1 g).1)⟩;rcases(Qk<|D j M f g t).1 with q|q;{exact .inl (C j f k t q)};rw[s];exact .inr q};cases j with|zero =>(obtain rfl:=aU g;obtain rfl:=aU t;rw[IA,s];exact u.1)|succ j =>have:=(Qk<|D j v f (by simpa using g)<|by simpa using t).2;rw[show k+_=k+1+j by omega];exact this
def aiH:∀l k c σ,(∀j,l[j]?=ops[k+j]?)->c.size=ops.size->(∀j,j<k->j<ops.size->c.getD j false=true) ->
  (∀j,k<=j->j<ops.size->c.getD j true=false)->Wo ops c->ali cx nb bf inl ops fp k l σ bb->aiF cx nb bf inl ops fp (·=bb) l.length c σ:=by
 intro l;induction l with|nil =>(intro k c σ x y z E f h;refine⟨?_,h⟩;cases J:Region.ready .any ops c with|nil=>rfl|cons i r =>obtain⟨F,o,I,_⟩:=mem_ready.1 (by rw[J];exact pg ..);have n:=(A9.1 I).1;rcases xy i k with v|v;{have:=z i v n;simp[y,n] at this F;rw[this] at F;cases F};have:=x (i-k);rw[show k+_=i by omega,I] at this;cases this)|cons o l K =>(intro k c σ x y z E f h;have v:ops[k]?=aa o:=by simpa using(x 0).symm);(have n:=(A9.1 v).1;obtain⟨L,M,G,O,R,b4,S,T⟩:=h;have g:=mem_ready.2 ⟨E k (b8 _) n,o,v,λe U A=>by have:=O e U A;exact z e.on this ai⟩);refine ab1 v L (λb A=>?_) l.length c σ b4 f (λj V D W t=>?_) g S (K _ _ b4 (λj=>?_) (by simp[y]) (λj D u=>?_) (λj D u=>?_) (f.list g) T);{cases q:(fp k).Ov with|true=>rw[G q] at A;cases A|false=>exact(M q).sub b A};{have s:=(A9.1 D).1;rcases xy j k with C|C;{exfalso;have:=z j C s;simp[y,s] at this t;rw[this] at t;cases t};have H:=x (j-k);rw[show k+_=j by omega,D] at H;obtain⟨m,X⟩:∃m,j-k=m+1:=⟨j-k-1,ai⟩;rw[X] at H;have:=R m V (by simpa using H);rw[show k+1+m=j by omega] at this;exact this};{have:=x (j+1);rw[show k+1+j=k+(j+1) by omega,<-this];simp};{by_cases e:j=k;{subst e;simp[y,n]};rw[getD_set_ne false<|Pr e];exact z j ai u};rw[getD_set_ne true (by omega:k≠j)];exact E j ai u
def Ql:∀{l k j o},l[j]?=aa o->(k+j,o)∈number k l:=by intro l;induction l with|nil=>intro k j o h;cases h|cons p l b =>intro k j o h;cases j with|zero=>(obtain rfl:=aU h;exact pg ..)|succ j=>exact wG _ (by rw[show k+(j+1)=k+1+j by omega];exact b (by simpa using h))
def Qm{d}:∀{items},ph d items=false->∀{i o},(i,o)∈items->o.dst≠aa d:=λh _ _ b=>abN h _ _ b
def Tc(z:fM P cx)(f:sn P B.G cx)(g:zG P B.G inl){Q}(r:∀i o,ops[i]?=aa o->(fp i).Ov=false->Y0 cx nb o (fp i))
  (A:∀o∈ops.toList,∀k,o.dst=aa k->k<N):∀n b σ γ a w,aiF cx nb bf inl ops fp (·=bb) n b σ->dz B N γ σ a w ->(∀bM s w',dz B N bM bb s w'->Ext B γ σ.mem w bM bb.mem w'->Fr (number 0 ops.toList) a s->Q .normal s w')->wpAny P .any ops Q n b a w:=by
 intro n;induction n with|zero =>(intro b σ γ a w h m q;obtain⟨e,rfl⟩:=h;exact⟨e,q γ a w m (Ext.refl _ _ _ _) λt _=>rfl⟩)|succ n C =>intro b σ γ a w h m q;refine⟨λD=>?_,λi E=>?_⟩;{obtain rfl:=h.1 D;exact q γ a w m (Ext.refl _ _ _ _) λt _=>rfl};(obtain⟨o,b4,e,F,H,I⟩:=h.2 i E;have j:o∈ops.toList:=by have:=ahD e;simpa using this);(have c:(i,o)∈number 0 ops.toList:=by have:=Ql (l:=ops.toList) (k:=0) (by simpa using e);simpa using this);(unfold wpOp;rw[e];dsimp only;have J:Region.wanted o (yielded ops a.tmps)=true:=by unfold Region.wanted;rw[F]);rw[J];refine .inl (P6 z f g m (A o j) (FL (r i o e) H) λu v K L M=>?_);refine C _ b4 u _ K I L λx O R S T U=>q x O R S (M.trans T) λt y=>?_;rw[U t y,gm (Qm y c)]
def dz.draw{a w}(h:dz B N γ σ a w) n:dz B N γ σ a { w with drawn:=n }/\Ext B γ σ.mem w γ σ.mem { w with drawn:=n }:=by obtain⟨m1,c⟩:=h.ok.far (w':={ w with drawn:=n }) (I':=γ.I) ⟨rfl,rfl,rfl,b8 _,λ_ _=>rfl⟩ (λ_ _ k=>k) (λb o k=>h.ok.xd b o k) (λb o k e=>absurd k e);exact⟨h.go c m1,c⟩
def Wq(c:P.follows .mixedOrders=true)(u:fM P cx)(g:sn P B.G cx)(m:zG P B.G inl){Q id a w}
  (v:∀o∈ops.toList,∀k,o.dst=aa k->k<N) (y:(Py cx nb bf inl (number 0 ops.toList) [] σ).run=aa bb) (h:dz B N γ σ a w) (z:∀bM n w',dz B N bM bb n w'->Ext B γ σ.mem w bM bb.mem w'->Fr (number 0 ops.toList) a n->Q .normal n w'):(Code.region id ops true).wp P Q a w:=by
 refine wp_region_any c ?_;obtain⟨A,M,O,C⟩:=Wp ops.toList 0 [] σ (λj o b=>by simpa using b) vf.nil y
 let fp:Nat->Fp:=λi=>(A[i]?.map (·.1)).getD ⟨[],[],true,af⟩
 obtain⟨r,_⟩:=C fp λj f b=>by simp[fp,b]
 have key:∀l k σ,ali cx nb bf inl ops fp k l σ bb->∀j o,l[j]?=aa o->(fp<|k+j).Ov=false->Y0 cx nb o (fp<|k+j):=by
  intro l;induction l with|nil=>intro k σ _ j o b;cases b|cons o l D =>intro k σ E j F b;obtain⟨R,H,I,S,T,b4,U,J⟩:=E;cases j with|zero=>(obtain rfl:=aU b;exact H)|succ j=>rw[show k+_=k+1+j by omega];exact D _ b4 J j F (by simpa using b)
 have hA:=aiH (bb:=bb) ops.toList 0 (Array.replicate ops.size false) σ aW aW (λj b=>ai) (λj _ b=>by simp[b]) (λi o e q=>by rcases xy i ops.size with t|t<;>simp[t] at q) r
 obtain⟨K,L⟩:=h.draw _;refine Tc u g m (λi o q=>by have:=key _ 0 σ r i o (by simpa using q);simpa using this) v _ _ σ γ a _ (by simpa using hA) K λbM n w' s x f=>z bM n w' s (L.trans x) f
end
end Go.Ge
namespace Go.Ge
open RowKit
section
variable {cx:Ctx} {nb:Nat} {bf:List Nat} {inl:Nat->List cw->St->Tree (cw×St)} {ops:Array Oper} {fp:Nat->Fp}
abbrev Gst:=St×(Nat->Bool)
def HI(b:Array Oper)(o:Oper)(s:Gst):Option Bool:=match o.guard with|none=>aa true|some (g,want)=>match(b[g]?).bind (·.dst) with|none=>af|some dg=>bif s.2 g then aa false else match s.1.bw dg with|.data .bool c=>aa ((show Bool from c)==want)|_=>af
def qe(c:Ctx)(e:Nat)(g:List Nat)(inl:Nat->List cw->St->Tree (cw×St))(b:Array Oper)(f:Fp)(i:Nat)(o:Oper)(s:Gst):Option Gst:=match HI b o s with|none=>af|some true=>(jo c e g inl f o s.1).run.map λσ=>(σ,s.2)|some false=>aa (s.1.bF o.dst .undef,kH i s.2)
def apc:St:={ bw:=λ_=>.undef,mem:=λ_=>af }
def Y4 σ d:σ.bF d .undef=lay σ d [] apc:=by cases d with|none=>rfl|some k=>rfl
def UF{f i o s l}(m:f.Ov=false)(h:qe cx nb bf inl ops f i o s=aa l):∃b e τ,HI ops o s=aa b/\l=(lay s.1 o.dst e τ,bif b then s.2 else kH i s.2)/\(∀x∈e,x∈f.wr) /\
  ∀c,HI ops o c=aa b->(b=true->c.1.only (tmpsOf<|iA o.op) f.rd=s.1.only (tmpsOf<|iA o.op) f.rd)->qe cx nb bf inl ops f i o c=aa (lay c.1 o.dst e τ,bif b then c.2 else kH i c.2):=by
 unfold qe at h;cases hd:HI ops o s with|none=>rw[hd] at h;cases h|some b =>rw[hd] at h;cases b with|true =>(obtain⟨bb,g,rfl⟩:=Ho.1 h;unfold jo at g;rw[m] at g;obtain⟨τ,n,q⟩:=bind_some g;obtain rfl:=aU q;refine⟨true,f.wr,τ,rfl,rfl,λx j=>j,λc k r=>?_⟩;unfold qe;rw[k];simp only;unfold jo;rw[m];simp;rw[Tree.run_bind,r rfl,n];rfl)|false =>obtain rfl:=aU h;refine⟨false,[],apc,rfl,by rw[Y4];rfl,λx j=>(nomatch j),λc k _=>?_⟩;unfold qe;rw[k,Y4];rfl
def Y5{i j x y f g}(h:Ef ops i j x y f g=true):f.Ov=false/\g.Ov=false/\(∀b∈f.wr,b∉g.rd)/\(∀b∈g.wr,b∉f.rd)/\Bj x j=true/\Bj y i=true /\
  (∀d,x.dst=aa d->d∉Hu ops y)/\(∀d,y.dst=aa d->d∉Hu ops x)/\(∀d e,x.dst=aa d->y.dst=aa e->d≠e):=by
 simp only[Ef,gC,Hr] at h;obtain⟨⟨⟨⟨⟨⟨⟨n,o⟩,r⟩,s⟩,t⟩,u⟩,c⟩,l⟩:=h;refine⟨n,o,λb m=>FM r m,λb m=>FM s m,t,u,λd k=>?_,λd k=>?_,λd e k v=>?_⟩
 .rw[k] at c;simp at c;exact ko.1 c.1
 .rw[k] at l;simp at l;exact ko.1 l
 .rw[k,v] at c;intro q;subst q;simp at c
def Qn{i o s d wr τ b}(f:Bj o i=true)(n:∀k,d=aa k->k∉Hu ops o):HI ops o (lay s.1 d wr τ,bif b then s.2 else kH i s.2)=HI ops o s:=by unfold HI;cases c:o.guard with|none=>rfl|some p =>obtain⟨g,m⟩:=p;dsimp only;cases h:(ops[g]?).bind _ with|none=>rfl|some dg =>(dsimp only;have j:Nat.beq g i=false:=by unfold Bj at f;rw[c] at f;simpa using f);(have q:(bif b then s.2 else kH i s.2) g=s.2 g:=by cases b with|true=>rfl|false=>simp only[zw,kH,j,ahY]);(have r:(lay s.1 d wr τ).bw dg=s.1.bw dg:=by unfold lay;cases d with|none=>rfl|some k =>(have l:dg≠k:=λe=>n k rfl (by unfold Hu Uw;rw[c];dsimp only;rw[h];subst e;exact pg ..));simp[kn l]);rw[q,r]
def aiI σ {g h i j c f} (hd:∀d e,g=aa d->h=aa e->d≠e) (o:∀b∈i,b∉j):lay (lay σ h j f) g i c=lay (lay σ g i c) h j f:=by
 unfold lay;congr 1
 {cases g with|none=>rfl|some k =>cases h with|none=>rfl|some e =>have l:=hd k e rfl rfl;funext t;by_cases m:t=k;{subst m;simp[kn l]};by_cases q:t=e;{simp[kn m]};simp[kn m]};funext b;dsimp only;cases n:du i b with|false=>rfl|true =>have:=o b (qv.1 n);simp[ko.2 this]
def ab2{i j g l c m s s1 s2}(n:Ef ops i j g l c m=true)(q:∀b∈c.wr,b∈c.rd)(D:qe cx nb bf inl ops c i g s=aa s1)(E:qe cx nb bf inl ops m j l s1=aa s2) :
  ∃e,qe cx nb bf inl ops m j l s=aa e/\qe cx nb bf inl ops c i g e=aa s2:=by
 obtain⟨F,G,H,u,I,J,v,x,K⟩:=Y5 n;obtain⟨L,Y,M,O,R,y,S⟩:=UF F D;subst R;obtain⟨T,Z,U,z,V,A,W⟩:=UF G E;subst V;rw[Qn J v] at z;have C:∀{o k},k∉Hu ops o->k∉tmpsOf _:=λh X=>h (M8 _ X);refine⟨_,(W s z λ_=>(Jh (λk r=>C (v k r)) λb f=>H b (y b f)).symm),?_⟩;rw[(S _ (by rw[Qn I x];exact O) λ_=>Jh (λk r=>C (x k r)) λb f=>u b (A b f))]
 congr 1
 refine Prod.ext (aiI s.1 K λb f t=>u b (A b t) (q b<|y b f)) ?_
 .dsimp only;cases L<;>cases T<;>first|rfl|skip
  simp;funext k;simp only[kH];cases Nat.beq k i<;>cases Nat.beq k j<;>rfl
def Wr(c:Ctx)(e:Nat)(f:List Nat)(inl:Nat->List cw->St->Tree (cw×St))(b:Array Oper)(g:Nat->Fp)(Q:Gst->Prop):Nat->Array Bool->Gst->Prop|0,listed,s=>Region.ready .any b listed=[]/\Q s|n+1,listed,s=>(Region.ready .any b listed=[]->Q s) /\∀i∈Region.ready .any b listed,∃o h,b[i]?=aa o/\qe c e f inl b (g i) i o s=aa h/\Wr c e f inl b g Q n (listed.setIfInBounds i true) h
variable {Q:Gst->Prop}
def ab3{i q}(E:ops[i]?=aa q)(v:∀b∈(fp i).wr,b∈(fp i).rd):∀n c s r,
  Wo ops c->(∀j t,ops[j]?=aa t->j≠i->c.getD j true=false->Reach ops j i\/Ef ops i j q t (fp i) (fp j)=true) ->i∈Region.ready .any ops c->qe cx nb bf inl ops (fp i) i q s=aa r->Wr cx nb bf inl ops fp Q n (c.setIfInBounds i true) r->Wr cx nb bf inl ops fp Q (n+1) c s:=by
 intro n;induction n with|zero =>intro c s r f g m C H;refine⟨λh=>(by rw[h] at m;cases m),λj u=>?_⟩;by_cases e:j=i;{subst e;exact⟨q,r,E,C,H⟩};have:=ready_mono u e;rw[H.1] at this;cases this|succ n I =>intro c s r f g m C H;refine⟨λh=>(by rw[h] at m;cases m),λj u=>?_⟩;by_cases e:j=i;{subst e;exact⟨q,r,E,C,H⟩};(obtain⟨t,J,x,K,L⟩:=H.2 j (ready_mono u e);obtain⟨l,M,F,G⟩:=mem_ready.1 u;have o:Ef ops i j q t (fp i) (fp j)=true:=by rcases g j t x e l with O|o;{exact(Y3 (mem_ready.1 m).1<|O.ready f u).elim};exact o);obtain⟨y,R,S⟩:=ab2 o v C K;refine⟨t,y,x,R,I _ y J (f.list u) (λk T U D z=>g k T U D ?_) (ready_mono m<|Pr e) S ?_⟩;{by_cases A:j=k;{subst A;exact l};rw[getD_set_ne true A] at z;exact z};rw[amX _ _ e];exact L
end
end Go.Ge
