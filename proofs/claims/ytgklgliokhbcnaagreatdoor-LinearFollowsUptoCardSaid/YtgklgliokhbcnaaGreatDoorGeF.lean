import Derived.Test.YtgklgliokhbcnaaGreatDoorGeE
import Derived.Tactics
set_option linter.unusedVariables false
set_option linter.unusedSimpArgs false
set_option linter.unusedSectionVars false
set_option linter.defProp false
open Option renaming some->aa,none->af
namespace Go.Ge
open RowKit
def n9.shrink{mem mem'}(i:∀b c,mem b=aa c->mem' b=aa { c with lk:=true }){b aP j K}(k:n9 mem b aP j)(h:n9 mem' b aP K)
  (l:∀c,K { c with lk:=true }->K c):n9 mem b aP K:=by
 obtain⟨c,f,m,_⟩:=k;obtain⟨n,g,q,o⟩:=h;rw[i b c f] at g;obtain rfl:=aI g;exact⟨c,f,m,λe=>l c (o e)⟩
def cI.shrink{γ bE mem mem' w w'}(g:∀b G,mem b=aa G->mem' b=aa { G with lk:=true }):∀{v m us vs},
  cI γ mem w v m us->cI bE mem' w' v m vs->cI bE mem w' v m vs:=by
 intro v;induction v with
 | undef=>intro m us vs _ r;cases m<;>exact r
 | data t x=>intro m us vs _ r;cases m<;>exact r
 | p7=>intro m us vs _ r;cases m<;>exact r
 | vd=>intro m us vs _ r;cases m<;>exact r
 | cell t x=>intro m us vs _ r;cases m<;>exact r
 | nl=>intro m us vs _ r;cases m<;>exact r
 | ve=>intro m us vs _ r;cases m<;>exact r
 | yr b aP =>
   intro m us vs c r;cases m with
   | many=>exact r
   | cells=>exact⟨r.1,c.2.shrink g r.2 λ_ k=>k⟩
   | val=>exact⟨r.1,c.2.shrink g r.2 λ_ k=>k⟩
 | ptr b aP p =>
   intro m us vs c r;cases m with
   | many=>exact r
   | cells=>exact⟨r.1,c.2.shrink g r.2 λ_ k=>k⟩
   | val=>exact⟨r.1,c.2.shrink g r.2 λ_ k=>k⟩
 | whole b aP =>
   intro m us vs c r;cases m with
   | many=>exact r
   | cells=>exact⟨r.1,c.2.shrink g r.2 λ_ k=>k⟩
   | val=>exact⟨r.1,c.2.shrink g r.2 λ_ k=>k⟩
 | part b aP lo n =>
   intro m us vs c r;cases m with
   | many=>exact r
   | cells=>exact⟨r.1,c.2.shrink g r.2 λ_ k=>k⟩
   | val=>exact⟨r.1,c.2.shrink g r.2 λ_ k=>k⟩
 | win b aP q e k lo n =>
   intro m us vs c r;cases m with
   | many=>exact r
   | cells=>exact⟨r.1,c.2.shrink g r.2 λ_ k=>k⟩
   | val=>exact⟨r.1,c.2.shrink g r.2 λ_ k=>k⟩
 | fn f H =>
   intro m us vs c r;cases m with
   | many=>exact r
   | cells=>obtain⟨_,_,_,s⟩:=c;obtain⟨h,j,l,F⟩:=r;exact⟨h,j,l,λi b aP z=>(s i b aP z).shrink g (F i b aP z) λ_ k=>k⟩
   | val=>obtain⟨_,_,_,s⟩:=c;obtain⟨h,j,l,F⟩:=r;exact⟨h,j,l,λi b aP z=>(s i b aP z).shrink g (F i b aP z) λ_ k=>k⟩
 | mix a b o y =>
   intro m us vs c r;cases m with
   | cells=>obtain⟨_,_,_,A,C⟩:=c;obtain⟨D,E,c,j,l⟩:=r;exact⟨D,E,c,o A j,y C l⟩
   | val=>obtain⟨_,_,_,A,C⟩:=c;obtain⟨D,E,c,j,l⟩:=r;exact⟨D,E,c,o A j,y C l⟩
   | many=>obtain⟨_,_,_,A,C⟩:=c;obtain⟨D,E,c,j,l⟩:=r;exact⟨D,E,c,o A j,y C l⟩
 | BR u I =>
   intro m us vs c r;cases m with
   | val=>obtain⟨_,_,s⟩:=c;obtain⟨h,j,l⟩:=r;exact⟨h,j,I s l⟩
   | cells=>exact r
   | many=>exact r
def bF.unlock{B γ bE mem mem' w w'}(h:bF B γ mem w)(q:∀b e,mem b=aa e->mem' b=aa { e with lk:=true })
  (m:bF B bE mem' w') (r:Ext B γ (λi=>match mem i with|some b=>aa { b with lk:=true }|none=>af) w bE mem' w'):bF B bE mem w'/\Ext B γ mem w bE mem w':=by
 have s:∀b e,mem b=aa e->bE.loc b=γ.loc b:=by
  intro b e f;obtain⟨v,k1,k2,k3⟩:=r.boxes b { e with lk:=true } (by simp[f]);rw[q b e f] at k1;obtain rfl:=aI k1;exact(k3 rfl).1
 have n:∀b,mem b≠af->mem' b≠none:=by
  intro b f;cases u:mem b with
  | none=>exact absurd u f
  | some e=>rw[q b e u];simp
 refine⟨?_,⟨r.below,r.I,r.r4,r.cells,λb e f=>⟨e,f,bV _,λ_=>⟨s b e f,rfl,rfl⟩⟩⟩⟩;exact
  { vh:=m.vh
    base:=m.base
    boxes:=λb e f=>by
     have j:=h.boxes b e f;have o:=m.boxes b _ (q b e f);unfold eB at j o⊢;cases l:e.buf with
     | true=>rw[l] at o;exact o
     | false =>
       rw[l] at j o;obtain⟨_,_,_,_,_,_,_,_,_,x⟩:=j;obtain⟨g,cap,cur,tid,fr,k1,k2,k3,adP,y⟩:=o;exact⟨g,cap,cur,tid,fr,k1,k2,k3,adP,x.shrink q y⟩
    inj:=λb c g k z f A j o=>m.inj b c g k z (n b f) (n c A) j o
    fresh:=λb g k f j=>m.fresh b g k (n b f) j
    vg:=m.vg
    sep:=λb e g k t f j C=>by
     have:=m.sep b _ g k t (q b e f) j C;exact this }
def Ext.gC{B γ}{c:St}{w}:Ext B γ c.mem w γ c.gC.mem w where
 below:=we.refl _ _
 I:=λ_ _ h=>h
 r4:=λ_ _ h=>.inl h
 cells:=λ_ _ _=>rfl
 boxes:=λb e f=>⟨{ e with lk:=true },by simp[St.gC,f],bV _,λ_=>⟨rfl,rfl,rfl⟩⟩
def bF.gC{B γ}{j:St}{w}(h:bF B γ j.mem w):bF B γ j.gC.mem w:=by
 have inv:∀{b l},j.gC.mem b=aa l->∃e,j.mem b=aa e/\l={ e with lk:=true }:=by
  intro b l f;simp only[St.gC] at f;split at f
  .rename_i e h0;exact⟨e,h0,(aI f).symm⟩
  .cases f
 have i:∀{b},j.gC.mem b≠af->j.mem b≠none:=by
  intro b f o;apply f;simp[St.gC,o]
 exact
  { vh:=h.vh
    base:=h.base
    boxes:=λb l f=>by
     obtain⟨e,h0,rfl⟩:=inv f;have:=(h.boxes b e h0).keep (Ext.gC (B:=B)) rfl (λ_ _ _=>rfl);exact this
    inj:=λb c g k q f r m s=>h.inj b c g k q (i f) (i r) m s
    fresh:=λb g k f m=>h.fresh b g k (i f) m
    vg:=h.vg
    sep:=λb l g k n f m t=>by
     obtain⟨e,h0,rfl⟩:=inv f;exact h.sep b e g k n h0 m t }
def dy.gC{B N γ σ a w}(h:dy B N γ σ a w):dy B N γ σ.gC a w where
 bh:=λt=>(h.bh t).ext (Ext.gC (B:=B))
 size:=h.size
 defers:=h.defers
 ok:=h.ok.gC
def F9{e f:St}(h:bU e.gC f):∀b c,e.mem b=aa c->f.mem b=aa { c with lk:=true }:=λb c g=>h b _ (by simp[St.gC,g]) rfl
end Go.Ge
namespace Go.Ge
open RowKit
inductive xG (all:Array Oper) (G:List (Nat×Bool)):List (Nat×Oper)->List Oper->Prop
 | nil:xG all G [] []
 | cons {i:Nat} {o o':Oper} {r:List (Nat×Oper)} {l:List Oper}:all[i]?=aa o->(o'=o\/∃g,o.guard=aa g/\g∈G/\o'={ o with guard:=af })->xG all G r l->xG all G ((i,o')::r) (o::l)
def UA{all G j want}:∀{items l inner},xG all G items l ->
  ∃b e,l=b++e/\xG all ((j,want)::G) (under j want inner items).1 b/\xG all G (under j want inner items).2 e:=by
 intro items l inner h;induction h generalizing inner with
 | nil=>exact⟨[],[],rfl,.nil,.nil⟩
 | @cons i o k r l n m C x =>
   unfold under;cases f:Aw k.guard j want with
   | true =>
     obtain⟨b,e,q,s,t⟩:=x (inner:=i::inner);refine⟨o::b,e,by rw[q];rfl,.cons n (.inr ?_) s,t⟩;have D:k=o:=by
      rcases m with m|⟨g,y,z,u⟩
      .exact m
      .rw[u] at f;cases f
     subst D;unfold Aw at f;split at f
     .rename_i E A v;simp only[gw] at f;have F:=gx f.1;have H:A=want:=by simpa using f.2
      subst F;subst H;exact⟨(E,A),v,ri ..,rfl⟩
     .cases f
   | false =>
     have both:∀c,∃b e,o::l=b++e /\
       xG all ((j,want)::G) (bif c then((i,k)::(under j want (i::inner) r).1,(under j want (i::inner) r).2) else([],(i,k)::r)).1 b /\
       xG all G (bif c then((i,k)::(under j want (i::inner) r).1,(under j want (i::inner) r).2) else([],(i,k)::r)).2 e:=by
      intro c;cases c with
      | true =>
        obtain⟨b,e,q,s,t⟩:=x;exact⟨o::b,e,by rw[q];rfl,.cons n (m.imp id λ⟨g,y,z,u⟩=>⟨g,y,v8 _ z,u⟩) s,t⟩
      | false=>exact⟨[],o::l,rfl,.nil,.cons n m C⟩
     apply both
def Xq{d}:∀{items},oQ d items=false->∀i o,(i,o)∈items->o.dst≠aa d:=by
 intro items;induction items with
 | nil=>intro _ i o h;cases h
 | cons p r c =>
   intro h i o b;simp only[oQ,Rp] at h;rcases fh.1 b with b|b
   .obtain⟨rfl,rfl⟩:=eN b;intro e;rw[e] at h;simp at h
   .exact c h.2 i o b
section
variable {P:Program} {B:B5} {N:Nat} {γ:Gh} {σ aV:St} {a:Act} {w w':World} {cx:Ctx} {nb:Nat} {bf:List Nat} {inl:Nat->List cp->St->Tree (cp×St)} {all:Array Oper}
def UB(c:Array Oper)(G:List (Nat×Bool))(a:Act)(b:List (Nat×Oper)):Prop :=
 ∀g∈G,∃e,(c[g.1]?).bind (·.dst)=aa e/\a.tmps[e]?=aa (.bool g.2)/\oQ e b=false
def UB.wanted{G items}(h:UB all G a items){o g}(b:o.guard=aa g)(c:g∈G):Region.wanted o (yielded all a.tmps)=true:=by
 obtain⟨i,e,f,_⟩:=h g c;unfold Region.wanted;rw[b];simp only[yielded,e,Zc,f];simp
def Fr(b:List (Nat×Oper))(a c:Act):Prop:=∀t,oQ t b=false->c.tmps[t]?=a.tmps[t]?
def gg{a:Act}{d:Option Nat}{v t}(h:d≠aa t):(a.put d v).tmps[t]?=a.tmps[t]?:=by
 cases d with
 | none=>rfl
 | some k =>
   have:k≠t:=λe=>h (by rw[e]);simp[Act.put,Array.getElem?_setIfInBounds_ne this]
def zM{d i o r}(h:oQ d ((i,o)::r)=false):o.dst≠aa d/\oQ d r=false:=by
 simp only[oQ,Rp] at h;refine⟨λe=>?_,h.2⟩;rw[e] at h;simp at h
def UC t:∀b,(σ.undef b).bh t=bif oQ t b then .undef else σ.bh t:=by
 intro b;induction b with
 | nil=>rfl
 | cons p r c =>
   obtain⟨i,o⟩:=p;simp only[St.undef,oQ];cases hd:o.dst with
   | none=>exact c
   | some k =>
     simp only[St.bu,St.put];cases f:Nat.beq k t with
     | true=>obtain rfl:=gx f;simp
     | false =>
       have:Nat.beq t k=false:=iI (λe=>by subst e;simp at f);rw[this];exact c
def rG:∀b,(σ.undef b).mem=σ.mem:=by
 intro b;induction b with
 | nil=>rfl
 | cons p r c =>
   obtain⟨i,o⟩:=p;simp only[St.undef];cases o.dst<;>exact c
def dy.undef(h:dy B N γ σ a w){items b}(c:Fr items a b)(f:b.tmps.size=N)(g:b.defers=[]):dy B N γ (σ.undef items) b w where
 bh:=λt=>by
  rw[UC,rG];cases i:oQ t items with
  | true=>exact⟨_,rfl⟩
  | false =>
    have:=c t i;have e:b.tmps.getD t Go.undef=a.tmps.getD t Go.undef:=by simp only[WX,this]
    rw[e];exact h.bh t
 size:=f
 defers:=g
 ok:=by rw[rG];exact h.ok
def Ga{d:Option Nat}{k}(h:yielded all a.tmps k=af):yielded all (a.put d Go.undef).tmps k=none:=by
 unfold yielded at h⊢;cases f:(all[k]?).bind _ with
 | none=>rfl
 | some b =>
   rw[f] at h;simp at h⊢;by_cases e:d=aa b
   .subst e;simp only[Act.put];rw[ahP];simp;by_cases c:b<a.tmps.size
    .rw[aQ c];rfl
    .rw[aK c]
   .rw[gg e];exact h
def Gb{i o}(h:all[i]?=aa o):yielded all (a.put o.dst Go.undef).tmps i=none:=by
 unfold yielded;rw[h];simp;cases hd:o.dst with
 | none=>rfl
 | some d =>
   simp only[Zc,Act.put];rw[ahP];simp;by_cases b:d<a.tmps.size
   .rw[aQ b];rfl
   .rw[aK b]
def Xr{G}{j E:Nat}{want c Q}(U:(all[j]?).bind (·.dst)=aa E)(F:c≠want) :
  ∀{items l inner a},xG all G items l->a.tmps[E]?=aa (.bool c)->oQ E (under j want inner items).1=false->(∀k∈inner,yielded all a.tmps k=af) ->
   ∃u x,l=u++x/\u.length=(under j want inner items).1.length/\∀e,(∀q,Fr (under j want inner items).1 a q->q.tmps.size=a.tmps.size->q.defers=a.defers->wpList P all Q e q w) ->
    wpList P all Q (u++e) a w:=by
 intro items l inner a h;induction h generalizing inner a with
 | nil=>intro _ _ _;exact⟨[],[],rfl,rfl,λe s=>s a (λt _=>rfl) rfl rfl⟩
 | @cons i o n r l V v h3 W =>
   intro S T y;have one:∀H,H.dst=o.dst->Region.wanted o (yielded all a.tmps)=false->(under j want inner ((i,n)::r)).1=(i,H)::(under j want (i::inner) r).1 ->
     ∃u x,o::l=u++x/\u.length=(under j want inner ((i,n)::r)).1.length/\∀e,(∀q,Fr (under j want inner ((i,n)::r)).1 a q->q.tmps.size=a.tmps.size->q.defers=a.defers->wpList P all Q e q w) ->
     wpList P all Q (u++e) a w:=by
    intro H z X A;rw[A] at T⊢;obtain⟨C,I⟩:=zM T;rw[z] at C;obtain⟨u,x,Y,Z,e3⟩:=W (a:=a.put o.dst Go.undef) (by rw[gg C];exact S) I (λk s=>by
     rcases fh.1 s with rfl|s
     .exact Gb V
     .exact Ga (y k s))
    refine⟨o::u,x,by rw[Y];rfl,by simp[Z],λe s=>?_⟩;show wpList P all Q (o::_) a w
    unfold wpList;rw[X];refine e3 e λq f1 f2 f3=>s q (λt ht=>?_) (f2.trans<|Uj _ _ _) (f3.trans<|put_defers _ _ _);obtain⟨D,J⟩:=zM ht;rw[z] at D;rw[f1 t J,gg D]
   cases m:Aw n.guard j want with
   | true =>
     have K:n=o:=by
      rcases v with v|⟨g,k1,k2,L⟩
      .exact v
      .rw[L] at m;cases m
     subst K;have f:n.guard=aa (j,want):=by
      unfold Aw at m;split at m
      .rename_i i' b' f;simp only[gw] at m;have h8:b'=want:=by simpa using m.2
       rw[f,(gx m.1),h8]
      .cases m
     refine one { n with guard:=af } rfl ?_ (by simp only[under,m,xj]);unfold Region.wanted;rw[f];simp only[yielded,U,Zc,S];cases c<;>cases want<;>first|rfl|exact absurd rfl F
   | false =>
     cases f:n.guard with
     | none =>
       have A:(under j want inner ((i,n)::r)).1=[]:=by
        rw[f] at m;simp only[under,f,m,BM]
       rw[A];exact⟨[],o::l,rfl,rfl,λe s=>s a (λt _=>rfl) rfl rfl⟩
     | some g =>
       obtain⟨k,b⟩:=g;rw[f] at m;cases M:inner.any (Nat.beq k) with
       | true =>
         have K:n=o:=by
          rcases v with v|⟨g,k1,k2,L⟩
          .exact v
          .rw[L] at f;cases f
         subst K;refine one n rfl ?_ (by simp only[under,f,m,M,BM,xj]);obtain⟨k',O,R⟩:=TJ.1 M;obtain rfl:=gx R;unfold Region.wanted;rw[f];simp only[y k O];rfl
       | false =>
         have A:(under j want inner ((i,n)::r)).1=[]:=by simp only[under,f,m,M,BM]
         rw[A];exact⟨[],o::l,rfl,rfl,λe s=>s a (λt _=>rfl) rfl rfl⟩
end
end Go.Ge
namespace Go.Ge
open RowKit
section
variable {P:Program} {B:B5} {N:Nat} {γ:Gh} {σ aV:St} {a:Act} {w w':World} {cx:Ctx} {nb:Nat} {bf:List Nat} {inl:Nat->List cp->St->Tree (cp×St)} {all:Array Oper}
def Mb σ items:bU σ (σ.undef items):=bU.aiE (rG items)
def Gc(h:∀f i σ v aV,(inl f i σ).run=aa (v,aV)->bU σ aV):∀n b σ,bg σ (se cx nb bf inl all n b σ):=by
 intro n;induction n with
 | zero=>intro b σ;exact bg.fail
 | succ n k =>
   intro b σ;cases b with
   | nil=>exact bg.ret (bU.refl _)
   | cons p r =>
     unfold se;split
     .exact bg.bind λbM l y g=>(Cd h bM l).trans (k _ _ y g)
     .rename_i j e C;dsimp only;split
      .exact bg.fail
      .rename_i u z;split
       .rename_i c D E t m o;cases F:oQ u (under j e [] _).1 with
        | true=>exact bg.fail
        | false =>
          split
          .exact bg.fail
          .cases A:KE cx (under j e [] _).1 with
           | true =>
             intro y g;obtain⟨cH,l,q⟩:=bind_some g;refine bU.trans ?_ (k _ _ y q);refine(bg.node ?_ ?_) cH l
             .refine bg.bind λτ s=>?_;split
              .exact bg.ret ((k _ _ τ s).trans<|bU.bu _ _ _)
              .exact bg.fail
             .split
              .exact bg.ret ((Mb _ _).trans<|bU.bu _ _ _)
              .exact bg.fail
           | false =>
             simp;split
             .intro y g;rw[Tree.xk] at g;obtain⟨x,l,q⟩:=BL.1 g;exact((Mb _ _).trans<|bU.put _ _ _).trans (k _ _ y q)
             .exact bg.fail
       .exact bg.fail
def RY{mem t v x val}(h:toD t v=aa x)(b:cI γ mem w v .val [val]){mem'}:cI γ mem' w (.data t x) .val [val]:=by
 unfold toD at h;split at h
 .obtain⟨q,c⟩:=Ty.lQ h;subst q;subst c;exact b
 .split at h
  .obtain rfl:=aI h;obtain rfl:val=_:=by simpa [cI] using b
   exact⟨[.slice af 0 0],.inl ⟨⟨af,rfl⟩,rfl⟩,rfl⟩
  .cases h
 .cases h
def xG.length{G items l}(h:xG all G items l):items.length=l.length:=by
 induction h with
 | nil=>rfl
 | cons _ _ _ b=>simp[b]
def Xs{g i b v K Q}(h:dy B N γ σ a w)(l:a.tmps[i]?=aa (.bool b)){want}(m:b=want)
  (e:Ax σ g i want=aa v) (n:∀y,cI γ σ.mem w v .val [y]->K (a.put g.dst y) w):g.wp P a w K Q:=by
 unfold Ax at e;split at e
 .rename_i c x y j;cases k:Nat.beq c i with
  | false=>rw[k] at e;cases e
  | true =>
    obtain rfl:=gx k;rw[k] at e;obtain rfl:=aI e;subst m;have o:a.eval (.tmp c)=.bool b:=by simp[Act.eval,l]
    unfold Oper.wp;have f:(execOp a.eval g).run P w=.ok (.value<|a.eval<|bif b then x else y) w:=by
     simp only[execOp,j,o];cases b<;>rfl
    rw[f];exact n _ (h.cW _)
 .cases e
def UB.put{G i o r}(h:UB all G a ((i,o)::r)) v:UB all G (a.put o.dst v) r:=by
 intro g b;obtain⟨c,e,f,j⟩:=h g b;obtain⟨k,l⟩:=zM j;exact⟨c,e,by rw[gg k];exact f,l⟩
def Xt{d j want}:∀{items inner},oQ d items=(oQ d (under j want inner items).1||oQ d (under j want inner items).2):=by
 intro items;induction items with
 | nil=>intro inner;rfl
 | cons p r b =>
   obtain⟨i,o⟩:=p;intro inner;unfold under;cases e:Aw o.guard j want with
   | true=>simp only[xj,oQ,T0];rw[b (inner:=i::inner)]
   | false =>
     have both:∀c,oQ d ((i,o)::r)=(oQ d (bif c then((i,o)::(under j want (i::inner) r).1,(under j want (i::inner) r).2) else([],(i,o)::r)).1 ||
       oQ d (bif c then((i,o)::(under j want (i::inner) r).1,(under j want (i::inner) r).2) else([],(i,o)::r)).2):=by
      intro c;cases c with
      | true=>simp only[xj,oQ,T0];rw[b]
      | false=>simp[oQ]
     apply both
def Xu{p:Option Nat->Prop}{j want}:∀{items inner},(∀i o,(i,o)∈items->p o.dst) ->
  (∀i o,(i,o)∈(under j want inner items).1->p o.dst)/\(∀i o,(i,o)∈(under j want inner items).2->p o.dst):=by
 intro items;induction items with
 | nil=>intro inner h;exact⟨h,h⟩
 | cons q r l =>
   obtain⟨e,f⟩:=q;intro inner h;have m:=h e f (ri ..);have n:=λi o b=>h i o (v8 _ b);unfold under;cases s:Aw f.guard j want with
   | true =>
     obtain⟨g,k⟩:=l n;refine⟨λi o b=>?_,k⟩;rcases fh.1 b with b|b
     .obtain⟨_,rfl⟩:=eN b;exact m
     .exact g i o b
   | false =>
     have both:∀c,(∀i o,(i,o)∈(bif c then((e,f)::(under j want (e::inner) r).1,(under j want (e::inner) r).2) else([],(e,f)::r)).1->p o.dst) /\
       (∀i o,(i,o)∈(bif c then((e,f)::(under j want (e::inner) r).1,(under j want (e::inner) r).2) else([],(e,f)::r)).2->p o.dst):=by
      intro c;cases c with
      | true =>
        obtain⟨g,k⟩:=l n;refine⟨λi o b=>?_,k⟩;rcases fh.1 b with b|b
        .obtain⟨_,rfl⟩:=eN b;exact m
        .exact g i o b
      | false=>exact⟨λi o b=>(by cases b),h⟩
     apply both
def Jd{t}{b:Bool}(h:dy B N γ σ a w)(f:σ.bh t=.data .bool b):a.tmps[t]?=aa (.bool b):=by
 have:=h.bh t;rw[f] at this;have e:=AA this;rw[WX] at e;cases c:a.tmps[t]? with
 | none=>rw[c] at e;cases e
 | some y=>rw[c] at e;exact congrArg aa e
def UD{α c want}{t e:Tree α}{y}(h:(Tree.node (bif want then c else nt c) t e).run=aa y):(c=want/\t.run=aa y)\/(c≠want/\c=(!want)/\e.run=aa y):=by
 have:=gD h;cases c<;>cases want
 .exact .inl ⟨rfl,this⟩
 .exact .inr ⟨aT,rfl,this⟩
 .exact .inr ⟨aT,rfl,this⟩
 .exact .inl ⟨rfl,this⟩
def OR(hc:fN P cx)(aaR:pS P B.G cx)(agD:yx P B.G inl)(ako:∀f aiF σ v aV,(inl f aiF σ).run=aa (v,aV)->bU σ aV){Q} :
  ∀n {items l rest σ aV γ a w G},xG all G items l->UB all G a items->(∀i o,(i,o)∈items->∀k,o.dst=aa k->k<N) ->
   (se cx nb bf inl all n items σ).run=aa aV->dy B N γ σ a w ->
   (∀bE a' w',dy B N bE aV a' w'->Ext B γ σ.mem w bE aV.mem w'->Fr items a a'->wpList P all Q rest a' w')->wpList P all Q (l++rest) a w:=by
 intro n;induction n with
 | zero=>intro items l rest σ aV γ a w G _ _ _ s;cases s
 | succ n ih =>
   intro items l rest σ aV γ a w G hit hG hd s h hK;cases hit with
   | nil =>
     obtain rfl:=aI s;exact hK γ a w h (Ext.refl _ _ _ _) (λt _=>rfl)
   | @cons i o o' r l h1 h2 h3 =>
     have O:o'.dst=o.dst:=by rcases h2 with rfl|⟨_,_,_,rfl⟩<;>rfl
     unfold se at s;split at s
     .rename_i hg;obtain⟨bM,r1,r2⟩:=bind_some s;have hw:Region.wanted o (yielded all a.tmps)=true:=by
       rcases h2 with rfl|⟨g,k1,k2,k3⟩
       .unfold Region.wanted;rw[hg]
       .exact hG.wanted k1 k2
      have r1':(sd cx nb bf inl o σ).run=aa bM:=by
       rcases h2 with rfl|⟨g,k1,k2,rfl⟩
       .exact r1
       .exact r1
      show wpList P all Q (o::_) a w
      unfold wpList;rw[hw];refine .inl (L3 hc aaR agD h (λk X=>hd i o' (ri ..) k (by rw[O];exact X)) r1' λu v L R x1=>?_);have hG':=hG.put v;rw[O] at hG';refine ih h3 hG' (λi o hm=>hd i o (v8 _ hm)) r2 R λS a2 w2 s2 x2 f2=>hK S a2 w2 s2 (x1.trans x2) λt ht=>?_;obtain⟨t1,Y⟩:=zM ht;rw[f2 t Y,gg (by rw[<-O];exact t1)]
     .rename_i j m hg;dsimp only at s;split at s
      .exact absurd s cj
      rename_i dj hdj;split at s
      case h_2=>exact absurd s cj
      rename_i c ip pk F akp UE;cases hh:oQ dj (under j m [] _).1 with
      | true=>rw[hh] at s;exact absurd s cj
      | false =>
      rw[hh] at s;split at s
      .exact absurd s cj
      rename_i hpg;have T:=Jd h akp;obtain⟨l1,l2,e1,I1,I2⟩:=UA (xG.cons h1 h2 h3);obtain⟨d1,d2⟩:=Xu (p:=λd=>∀k,d=aa k->k<N) hd;have U:∀d,oQ d ((i,o')::r)=(oQ d (under j m [] _).1||oQ d (under j m [] _).2):=λd=>Xt;have akq:=λq=>Xr (P:=P) (w:=w) (Q:=Q) hdj q (xG.cons h1 h2 h3) T hh BS;generalize hg1:(under j m [] _).1=Z at *;rw[UE] at I2 d2 U;cases I2 with
      | @cons _ z _ _ l2' p1 p2 p3 =>
      have H:pk.dst=z.dst:=by rcases p2 with rfl|⟨_,_,_,rfl⟩<;>rfl
      have alY:pk.op=z.op:=by rcases p2 with rfl|⟨_,_,_,rfl⟩<;>rfl
      rw[e1,xg];have C:∀{d},oQ d ((i,o')::r)=false->oQ d Z=false/\z.dst≠aa d/\oQ d F=false:=by
       intro d hd0;rw[U] at hd0;simp at hd0;obtain⟨q1,q2⟩:=zM hd0.2;exact⟨hd0.1,by rw[<-H];exact q1,q2⟩
      have tail:∀u τ cH A L v b,dy B N u τ A L->Fr Z a A->c=b->Ax τ pk dj b=aa v ->
        (∀y,cI u τ.mem L v .val [y]->∃S,dy B N S cH (A.put z.dst y) L/\Ext B γ σ.mem w S cH.mem L)->(se cx nb bf inl all n F cH).run=aa aV ->
        wpList P all Q (z::l2'++rest) A L:=by
       intro u τ cH A L v b R E hcb D hy I;have hGp:UB all G A ((ip,pk)::F):=λg V=>by
        obtain⟨dj',k1,k2,k3⟩:=hG g V;obtain⟨q1,q2,q3⟩:=C k3;refine⟨dj',k1,by rw[E dj' q1];exact k2,?_⟩;simp only[oQ,Rp];refine⟨?_,q3⟩;cases M:pk.dst with
        | none=>rfl
        | some k=>exact iI λe=>q2 (by rw[<-H,M,e])
       have hwp:Region.wanted z (yielded all A.tmps)=true:=by
        rcases p2 with rfl|⟨g,k1,k2,k3⟩
        .unfold Region.wanted;rw[hpg]
        .exact hGp.wanted k1 k2
       show wpList P all Q (z::_) A L
       unfold wpList;rw[hwp];have alZ:Ax τ z dj b=aa v:=by rw[<-D];unfold Ax;rw[alY]
       refine .inl (Xs R (by rw[E dj hh];exact T) hcb alZ λy hyr=>?_);obtain⟨S,s2,x2⟩:=hy y hyr;have hGr:=hGp.put y;rw[H] at hGr;refine ih p3 hGr (λi o hm=>d2 i o (v8 _ hm)) I s2 λγ3 a3 w3 s3 x3 f3=>hK γ3 a3 w3 s3 (x2.trans x3) λt ht=>?_;obtain⟨q1,q2,q3⟩:=C ht;rw[f3 t q3,gg q2,E t q1]
      have W:∀(τ:St) d v,(τ.bu d v).mem=τ.mem:=λτ d v=>by cases d<;>rfl
      have M:=λk X=>d2 ip pk (ri ..) k (by rw[H];exact X);have hG1:c=m->UB all ((j,m)::G) a Z:=λq g V=>by
       rcases fh.1 V with rfl|V
       .exact⟨dj,hdj,by rw[<-q];exact T,hh⟩
       .obtain⟨dj',k1,k2,k3⟩:=hG g V;exact⟨dj',k1,k2,(C k3).1⟩
      have kA:c≠m->(∀A,Fr Z a A->A.tmps.size=a.tmps.size->A.defers=a.defers->wpList P all Q (z::l2'++rest) A w)->wpList P all Q (l1++(z::l2'++rest)) a w:=by
       intro q X;obtain⟨m1,m2,q1,q2,q3⟩:=akq q;rw[e1] at q1;obtain⟨rfl,rfl⟩:=List.append_inj q1 (by rw[q2,I1.length]);exact q3 _ X
      cases Uv:KE cx Z with
      | true =>
        rw[Uv] at s;obtain⟨cH,J,I⟩:=bind_some s;rcases UD J with ⟨q,J⟩|⟨q,hcn,J⟩
        .obtain⟨τ,t1,Y⟩:=bind_some J;split at Y
         .rename_i v D;obtain rfl:=aI Y;refine ih I1 (hG1 q) d1 t1 h λu A L R x1 E=>tail u τ _ A L v m R E q D (λy hy=>⟨u,?_,?_⟩) I
          .rw[H];exact R.xv M hy
          .rw[W];exact x1
         .exact absurd Y cj
        .split at J
         .rename_i v D;obtain rfl:=aI J;refine kA q λA E f2 f3=>tail γ (σ.undef Z) _ A w v (!m) (h.undef E (f2.trans h.size)<|f3.trans h.defers) E hcn D (λy hy=>⟨γ,?_,?_⟩) I
          .rw[H];exact(h.undef E (f2.trans h.size)<|f3.trans h.defers).xv M hy
          .rw[W,rG];apply Ext.refl
         .exact absurd J cj
      | false =>
        rw[Uv] at s;simp at s;split at s
        case h_2=>exact absurd s cj
        rename_i t dp hT hdp;rw[Tree.xk] at s;obtain⟨x,J,I⟩:=BL.1 s;have K:z.dst=aa dp:=by rw[<-H];exact hdp
        rcases UD J with ⟨q,J⟩|⟨q,hcn,J⟩
        .obtain⟨τ,t1,Y⟩:=bind_some J;split at Y
         .rename_i x' D;obtain rfl:=aI Y;obtain⟨v,hv1,hv2⟩:=BL.1 D;refine ih I1 (hG1 q) d1 t1 h.gC λu A L R x1 E=>tail u τ _ A L v m R E q hv1 (λy hy=>?_) I;obtain⟨m1,m2⟩:=h.ok.unlock (F9<|Gc ako n Z _ τ t1) R.ok x1;refine⟨u,?_,?_⟩
          .rw[K];exact((h.go m2 m1).undef E R.size R.defers).xv (λk X=>M k (by rw[K];exact X)) (RY hv2 hy)
          .show Ext B γ σ.mem w u (σ.undef Z).mem L
           rw[rG];exact m2
         .exact absurd Y cj
        .split at J
         .rename_i x' D;obtain rfl:=aI J;obtain⟨v,hv1,hv2⟩:=BL.1 D;refine kA q λA E f2 f3=>tail γ _ _ A w v _ (h.undef E (f2.trans h.size)<|f3.trans h.defers) E hcn hv1 (λy hy=>⟨γ,?_,?_⟩) I
          .rw[K];exact(h.undef E (f2.trans h.size)<|f3.trans h.defers).xv (λk X=>M k (by rw[K];exact X)) (RY hv2 hy)
          .show Ext B γ σ.mem w γ (σ.undef Z).mem w
           rw[rG];apply Ext.refl
         .exact absurd J cj
end
end Go.Ge
namespace Go.Ge
open RowKit
section
variable {P:Program} {B:B5} {N:Nat} {γ:Gh} {σ aV:St} {a:Act} {w w':World} {cx:Ctx} {nb:Nat} {bf:List Nat} {inl:Nat->List cp->St->Tree (cp×St)} {ops:Array Oper}
def RZ:∀{l:List Oper} {k:Nat},(∀j,l[j]?=ops[k+j]?)->xG ops [] (number k l) l:=by
 intro l;induction l with
 | nil=>intro k _;exact .nil
 | cons o l b =>
   intro k h;refine .cons ?_ (.inl rfl) (b λj=>by have:=h (j+1);simpa [EB,T3 1 j] using this);have:=h 0;simpa using this.symm
def Xv:∀{l:List Oper} {k i:Nat} {o:Oper},(i,o)∈number k l->o∈l:=by
 intro l;induction l with
 | nil=>intro k i o h;cases h
 | cons p l b =>
   intro k i o h;rcases fh.1 h with h|h
   .obtain⟨_,rfl⟩:=eN h;exact ri ..
   .exact v8 _ (b h)
def R0(n:fN P cx)(c:pS P B.G cx)(e:yx P B.G inl)(b:∀f g σ v aV,(inl f g σ).run=aa (v,aV)->bU σ aV){Q:Exit->Act->World->Prop}{id:Nat}
  (q:∀o∈ops.toList,∀k,o.dst=aa k->k<N) (r:(Lu cx nb bf inl ops σ).run=aa aV) (h:dy B N γ σ a w)
  (t:∀bE m w',dy B N bE aV m w'->Ext B γ σ.mem w bE aV.mem w'->Fr (number 0 ops.toList) a m->Q .normal m w'):(Code.region id ops false).wp P Q a w:=by
 refine wp_region_list ?_;have:=OR (all:=ops) (Q:=Q) (rest:=[]) n c e b _ (RZ (l:=ops.toList) (k:=0) λj=>aT) BS (λi o u=>q o (Xv u)) r h
  (λbE m w' s x f=>wpList_nil (t bE m w' s x f))
 simpa using this
end
end Go.Ge
namespace Go.Ge
open RowKit
def wk(p:Nat->Prop)(e c:St):Prop:=∀b,c.mem b=e.mem b\/(c.mem b≠af/\p b)
section
variable {p:Nat->Prop} {σ τ ρ:St}
def wk.refl σ:wk p σ σ:=λ_=>.inl rfl
def wk.trans(h:wk p σ τ)(k:wk p τ ρ):wk p σ ρ:=λb=>by
 rcases k b with c|c
 .rcases h b with e|⟨e,f⟩
  .exact .inl (c.trans e)
  .exact .inr ⟨by rw[c];exact e,f⟩
 .exact .inr c
def wk.bu σ d v:wk p σ (σ.bu d v):=by cases d<;>exact λ_=>.inl rfl
def wk.put σ d v:wk p σ (σ.put d v):=λ_=>.inl rfl
def wk.cw{b bx}(h:p b):wk p σ (σ.cw b bx):=λc=>by
 by_cases e:c=b
 .subst e;exact .inr ⟨by simp[St.cw],h⟩
 .exact .inl (by rw[xy,aZ _ e])
end
def ck(p:Nat->Prop)(b:St)(T:Tree St):Prop:=∀y,T.run=aa y->wk p b y
section
variable {p:Nat->Prop} {σ:St}
def ck.fail:ck p σ .fail:=λy h=>by cases h
def ck.ret{aV}(h:wk p σ aV):ck p σ (.ret aV):=λy b=>by obtain rfl:=aI b;exact h
def ck.bif{c t}(h:ck p σ t):ck p σ (bif c then t else .fail):=λy b=>h y (ay b).2
def ck.ju{c t}(h:ck p σ t):ck p σ (.ju c t):=λy b=>h y (cP b).2
def ck.look{T}{o:Option T}{k}(h:∀x,ck p σ (k x)):ck p σ (.look o k):=λy b=>by obtain⟨x,_,c⟩:=cg b;exact h x y c
def ck.node{c t e}(h:ck p σ t)(k:ck p σ e):ck p σ (.node c t e):=λy b=>by
 have:=gD b;cases c with
 | true=>exact h y this
 | false=>exact k y this
def ck.bind{α}{t:Tree α}{f}(h:∀x,t.run=aa x->ck p σ (f x)):ck p σ (t.bind f):=λy b=>by obtain⟨x,c,e⟩:=bind_some b;exact h x c y e
def ck.bA{b val tid buf d}{v:Nat->cp}(h:p b):ck p σ (σ.bA b val tid buf λc σ=>.ret (σ.put d<|v c)):=λy e=>by
 obtain⟨c,g,f⟩:=oi e;obtain rfl:=aI f;exact(wk.cw h).trans (wk.put _ _ _)
def Mc{σ aV b}(g:∀b,σ.mem b≠af->p b)(h:freeze σ b=aa aV):wk p σ aV:=by
 unfold freeze at h;split at h
 .rename_i f i;cases c:f.ro with
  | true=>simp only[c,xj,Lh] at h;rw[<-h];apply wk.refl
  | false =>
    cases e:f.lk with
    | true=>simp[c,e] at h
    | false =>
      simp only[c,e,BM,Lh] at h;rw[<-h];exact wk.cw (g b<|by rw[i];simp)
 .cases h
def HI(p:Nat->Prop)(e c:St):Prop:=(∀b,e.mem b≠af->p b)->wk p e c/\∀b,c.mem b≠af->p b
def HI.refl σ:HI p σ σ:=λh=>⟨wk.refl _,h⟩
def HI.trans{σ τ ρ}(h:HI p σ τ)(k:HI p τ ρ):HI p σ ρ:=λb=>by
 obtain⟨c,e⟩:=h b;obtain⟨f,g⟩:=k e;exact⟨c.trans f,g⟩
def HI.of{σ aV}(h:(∀b,σ.mem b≠af->p b)->wk p σ aV):HI p σ aV:=λc=>by
 refine⟨h c,λb e=>?_⟩;rcases h c b with k|k
 .exact c b (by rw[<-k];exact e)
 .exact k.2
def UF:∀{v σ aV},ji σ v=aa aV->HI p σ aV:=by
 intro v;induction v with
 | mix p q c e =>
   intro σ aV h;obtain⟨bM,g,i⟩:=yw h;exact(c g).trans (e i)
 | whole b aP=>intro σ aV h;exact HI.of λf=>Mc f h
 | part b aP lo n=>intro σ aV h;exact HI.of λf=>Mc f h
 | _=>intro σ aV h;obtain rfl:=aI h;apply HI.refl
def zN{t x v σ aV}(h:BZ σ t v=aa (x,aV)):HI p σ aV:=by
 unfold BZ at h;split at h
 .split at h
  .obtain⟨_,rfl⟩:=eN (aI h);apply HI.refl
  .cases h
 .split at h
  .rename_i y bM c b;obtain⟨_,rfl⟩:=eN (aI h);exact UF b
  .cases h
def Ce:∀{A x vs σ aV},gB σ A vs=aa (x,aV)->HI p σ aV:=by
 intro A;induction A with
 | pair t r e c =>
   intro x vs σ aV b;cases vs with
   | nil=>cases b
   | cons v vs =>
     simp only[gB] at b;split at b
     .rename_i p bM f;split at b
      .rename_i q cH g;obtain⟨_,rfl⟩:=eN (aI b);exact(zN f).trans (c g)
      .cases b
     .cases b
 | unit =>
   intro x vs σ aV b;cases vs with
   | nil=>obtain⟨_,rfl⟩:=eN (aI b);apply HI.refl
   | cons v vs=>cases b
 | _=>intro x vs σ aV b;cases vs<;>cases b
def Md{t}:∀{parts x b σ aV},iG σ t x parts=aa (b,aV)->HI p σ aV:=by
 intro parts;induction parts with
 | nil=>intro x b σ aV h;obtain⟨_,rfl⟩:=eN (aI h);apply HI.refl
 | cons p r c =>
   intro x b σ aV h;simp only[iG] at h;split at h
   .split at h
    .rename_i e;split at h
     .exact(zN e).trans (c h)
     .cases h
    .cases h
   .cases h
def R1{bf t parts v σ aV}(h:p9 bf σ t parts=aa (v,aV)):HI p σ aV:=by
 unfold p9 at h;cases b:dc bf 8600000&&parts.any (λp=>sb (cW σ p.2)) with
 | true=>rw[b] at h;simp only[xj] at h;split at h<;>cases h;exact HI.refl _
 | false=>rw[b] at h;simp only[BM] at h;split at h<;>cases h;exact Md (by assumption)
def zc{e}:∀{parts l c σ aV},fF σ e l parts=aa (c,aV)->HI p σ aV:=by
 intro parts;induction parts with
 | nil=>intro x i σ aV h;obtain⟨_,rfl⟩:=eN (aI h);apply HI.refl
 | cons p r f =>
   obtain⟨k,o⟩:=p;intro l c σ aV h;simp only[fF] at h;split at h
   .rename_i g;cases b:Nat.blt k l.length with
    | false=>rw[b] at h;cases h
    | true=>rw[b] at h;exact(zN g).trans (f h)
   .cases h
def Je{b aP k fit u σ aV}(e:(storeAt b aP k fit u σ).run=aa aV):HI p σ aV:=HI.of λl=>by
 unfold storeAt at e;split at e
 case h_2=>exact absurd e cj
 rename_i o m;obtain⟨q,f⟩:=ay e;obtain⟨n,r,g⟩:=bind_some f;obtain⟨j,h⟩:=ay g;obtain⟨c,s,i⟩:=bind_some h;obtain rfl:=aI i;exact wk.cw (l b<|by rw[m];simp)
def UG{b aP l n u σ aV}(e:(uk b aP l n u σ).run=aa aV):HI p σ aV:=HI.of λm=>by
 unfold uk at e;split at e
 case h_2=>exact absurd e cj
 rename_i s o;obtain⟨t,f⟩:=ay e;obtain⟨q,v,g⟩:=bind_some f;obtain⟨k,h⟩:=ay g;obtain⟨c,x,i⟩:=bind_some h;obtain⟨r,j⟩:=ay i;obtain rfl:=aI j;exact wk.cw (m b<|by rw[o];simp)
def OS{cx bf ty x y σ aV}(e:(mU cx bf ty x y σ).run=aa aV):HI p σ aV:=by
 unfold mU at e;split at e
 case h_2=>exact absurd e cj
 split at e
 case h_2=>exact absurd e cj
 obtain⟨g,f⟩:=ay e;obtain⟨i,l,c⟩:=bind_some f;split at c
 .rename_i u _;obtain⟨j,b⟩:=ay c;cases h:dc bf 8000000&&adx u y with
  | true=>rw[h] at b;exact UG b
  | false =>
  rw[h] at b;split at b
  .rename_i k;exact(zN k).trans (Je b)
  .exact absurd b cj
 .obtain⟨j,b⟩:=ay c;exact Je b
def Cf{cx nb d ty s x σ aV}(g:∀k,d=aa k->p (nb+k))(h:∀b,σ.mem b≠af->p b)(c:(iH cx nb d ty s x σ).run=aa aV):wk p σ aV:=by
 unfold iH at c;split at c
 case h_2=>exact absurd c cj
 split at c
 case h_2=>exact absurd c cj
 split at c
 .obtain⟨i,e⟩:=cP c;exact ck.bA (g _ rfl) _ e
 .split at c
  case h_2=>exact absurd c cj
  rename_i n l j o;obtain⟨m,f⟩:=wi c;obtain⟨i,e⟩:=cP f;obtain rfl:=aI e;exact(wk.cw<|h _<|by rw[j];simp).trans (wk.put _ _ _)
 .exact absurd c cj
def Xw{b val tid buf d}{v:Nat->cp}{σ aV}(h:p b)(e:(σ.bA b val tid buf λc σ=>.ret (σ.put d<|v c)).run=aa aV):wk p σ aV:=ck.bA h _ e
def OT{nb e d args σ aV}(f:∀k,d=aa k->p (nb+k))(g:∀b,σ.mem b≠af->p b)(c:(mY nb e d args σ).run=aa aV):wk p σ aV:=by
 unfold mY at c;split at c
 case h_2=>cases c
 split at c
 case h_2=>cases c
 rename_i h;obtain⟨_,c⟩:=ay c;obtain⟨_,c⟩:=cP c;exact((zN h) g).1.trans (Xw (f _ rfl) c)
def UH{e A res spec d args σ aV}(i:∀b,σ.mem b≠af->p b)(c:(uq e A res spec d args σ).run=aa aV):wk p σ aV:=by
 unfold uq at c;split at c
 case h_2=>cases c
 split at c
 case h_2=>cases c
 rename_i x bM j;split at c
 case h_2=>cases c
 rename_i b m q l g;obtain⟨r,_,c⟩:=cg c;obtain⟨n,_⟩:=vm g;obtain⟨h,o⟩:=(Ce j) i;have key:∀f,wk p bM (bM.cw b f):=λf=>wk.cw (o b<|by rw[n];simp);cases res with
 | true =>
   cases d with
   | none=>cases c
   | some k=>obtain rfl:=aI c;exact(h.trans<|key _).trans (wk.put _ _ _)
 | false =>
   cases d with
   | none=>obtain⟨_,c⟩:=ay c;obtain rfl:=aI c;exact(h.trans<|key _).trans (wk.bu _ af _)
   | some k=>obtain⟨_,c⟩:=ay c;obtain rfl:=aI c;exact(h.trans<|key _).trans (wk.bu _ _ _)
end
def OU{p:Prop}(h:p:=by
 repeat' (first
  | exact ck.fail|exact ck.ret (wk.bu _ _ _)|exact ck.ret (wk.put _ _ _)|exact ck.bA (by assumption)
  | refine ck.bif ?_|refine ck.ju ?_|refine ck.look λ_=>?_|refine ck.node ?_ ?_|refine ck.bind λ_ _=>?_|split)):p:=h
section
variable {cx:Ctx} {nb:Nat} {bf:List Nat} {d:Option Nat} {σ:St} {p:Nat->Prop}
def R4{c a b}:ck p σ (p8 d c a b σ):=by unfold p8;exact OU
def R5{ty a}:ck p σ (mx cx d ty a σ):=by unfold mx;exact OU
def OV{ty x lo hi}:ck p σ (mV cx d ty x lo hi σ):=by unfold mV;exact OU
def aaS{b aP i}:∀{m k},ck p σ (Lt d b aP σ i m k):=by
 intro m;induction m with
 | zero=>exact ck.fail
 | succ m c=>exact ck.node (ck.ret<|wk.bu _ _ _) c
def yA{ty x i}:ck p σ (eH cx d ty x i σ):=by
 unfold eH;split
 case h_6=>split
           .exact ck.bif aaS
           .exact ck.fail
 all_goals exact OU
def OW{ty x i}:ck p σ (mW cx d ty x i σ):=by
 unfold mW;split
 .refine ck.bif ?_;split
  .exact ck.bif (ck.ret<|wk.bu _ _ _)
  .exact ck.fail
 .exact yA
def OX{ty x i}:ck p σ (mX cx d ty x i σ):=by unfold mX;exact OU
def Gd{s x k}:ck p σ (fc cx d s x k σ):=by unfold fc;exact OU
def Cg{ty v}(b:∀k,d=aa k->p (nb+k)):ck p σ (kj cx nb bf d ty v σ):=by
 unfold kj;split
 .exact OU
 .split
  .rename_i k e _;cases dc bf k with
   | true=>exact ck.bA (b _ rfl)
   | false=>exact ck.ret (wk.put _ _ _)
  .exact ck.ret (wk.bu _ _ _)
 .exact ck.ret (wk.bu _ _ _)
def J7{s t x}(b:∀k,d=aa k->p (nb+k)):ck p σ (iq cx nb d s t x σ):=by
 unfold iq;split
 .exact OU
 .exact OU
 .split
  .exact ck.ju (ck.bA<|b _ rfl)
  .exact ck.fail
 .exact OU
 .exact OU
def Xx{o ge}(M:sf o σ=ge)(F:cls cx ge o≠3)(q:cls cx ge o≠0->∀k,o.dst=aa k->p (nb+k))(D:cls cx ge o≠0->cls cx ge o≠1->∀b,σ.mem b≠af->p b):ck p σ (sd cx nb bf zD o σ):=by
 unfold sd;split
 case h_1 x h=>exact Cg (q<|by simp[cls,h])
 case h_2 x h=>exact Cg (q<|by simp[cls,h])
 case h_3=>exact R4
 case h_4 e h =>
  split
  .rename_i k t T I;have X:cls cx ge o≠0:=by
    cases t<;>simp[cls,h,I]
   unfold wZ;split
   .exact absurd (by simp[cls,h,I]) F
   .exact ck.bA (q X _<|by assumption)
  .rename_i I;split
   .rename_i G;exact absurd (by simp[cls,h,I,G]) F
   .rename_i G;exact ck.bif (ck.bA<|q (by simp[cls,h,I,G]) _<|by assumption)
  .exact ck.fail
 case h_5 e x h =>
  unfold FF;split
  .exact ck.fail
  .exact ck.fail
  .split
   .rename_i G;exact absurd (by simp[cls,h,G]) F
   .rename_i G;exact ck.bA (q (by simp[cls,h,G]) _<|by assumption)
  .exact ck.fail
 case h_6 t ps h =>
  have j:=D (by simp[cls,h]) (by simp[cls,h]);split
  .split
   .rename_i z;exact ck.ret ((R1 z j).1.trans<|wk.bu _ _ _)
   .exact ck.fail
  .split
   .rename_i z;exact ck.ret ((zc z j).1.trans<|wk.bu _ _ _)
   .exact ck.fail
  .exact OU
  .exact ck.fail
 case h_7 t n ps h =>
  have j:=D (by simp[cls,h]) (by simp[cls,h]);split
  .split
   .rename_i k J L;exact ck.bA (q (by simp[cls,h]) k (EP J).1)
   .refine ck.bif ?_;split
    .rename_i z;split
     .rename_i k T;exact λy C=>(zc z j).1.trans (ck.bA (q (by simp[cls,h]) k<|yz T) _ C)
     .exact ck.ret ((zc z j).1.trans<|wk.bu _ _ _)
    .exact ck.fail
  .unfold C6;split
   .exact ck.bif (ck.bA<|q (by simp[cls,h]) _<|by assumption)
   .exact ck.fail
  .exact ck.fail
 case h_8=>exact R5
 case h_9 t a x h =>
  have j:=D (by simp[cls,h]) (by simp[cls,h]);split
  .exact λy C=>(OS C j).1
  .exact ck.fail
 case h_10=>exact OU
 case h_11=>exact OU
 case h_12=>exact OU
 case h_13 s t x h=>exact J7 (q<|by simp[cls,h])
 case h_14=>exact OU
 case h_15=>exact OV
 case h_16=>exact Gd
 case h_17=>exact OU
 case h_18=>split
            .cases dc bf 5000000 with
             | true=>exact OW
             | false=>exact yA
            .exact ck.fail
 case h_19=>split
            .exact OX
            .exact ck.fail
 case h_20 t l c h =>
  split
  .exact ck.ju (ck.ju<|ck.bA<|q (by simp[cls,h]) _<|by assumption)
  .exact ck.fail
 case h_21=>exact OU
 case h_22 c h =>
  unfold xp;split
  .rename_i b z;split
   .exact OU
   .have H:cls cx ge o≠0:=by simp[cls,h,z]
    have U:cls cx ge o≠1:=by simp[cls,h,z]
    split
    .exact λy C=>Cf (q H) (D H U) C
    .exact λy C=>Cf (q H) (D H U) C
    .exact ck.fail
   .exact absurd (by simp[cls,h,z]) F
   .exact absurd (by simp[cls,h,z]) F
   .exact OU
   .exact OU
   .exact ck.fail
  .rename_i f E;split
   .rename_i g V O;refine ck.bif ?_;have v:ge=aa g:=by rw[<-M];simp[sf,h,E,O]
    unfold wc;split
    .rename_i e R;have key:cls cx ge o=2:=by simp[cls,h,E,v,yy R]
     have H:cls cx ge o≠0:=by rw[key];simp
     exact λy C=>OT (q H) (D H<|by rw[key];simp) C
    .rename_i e A r s R;have key:cls cx ge o=2:=by simp[cls,h,E,v,yy R]
     exact λy C=>UH (D (by rw[key];simp)<|by rw[key];simp) C
    unfold y8;split
    .rename_i Y i;split
     .split
      .exact ck.look λ_=>ck.ret (wk.bu _ _ _)
      .exact ck.fail
     .rename_i S;have key:cls cx ge o=2:=by
       unfold cls;simp only[h,E,v];split
       .rfl
       .rfl
       .simp[i,S]
      split
      .rename_i K;exact ck.look λ_=>ck.ret ((Ce K<|D (by rw[key];simp)<|by rw[key];simp).1.trans<|wk.bu _ _ _)
      .exact ck.fail
    .rename_i i;split
     .rename_i s m;unfold C5;split
      .exact absurd (by simp[cls,h,E,v,i,m]) F
      .exact absurd (by simp[cls,h,E,v,i,m]) F
      .exact ck.fail
     .rename_i m;exact absurd (by simp[cls,h,E,v,i,m]) F
   .exact ck.fail
  .rename_i r W E;have key:cls cx ge o=2:=by simp[cls,h,E]
   unfold tN;split
   .split
    .rename_i K;exact ck.look λ_=>ck.ret ((Ce K<|D (by rw[key];simp)<|by rw[key];simp).1.trans<|wk.bu _ _ _)
    .exact ck.fail
   .exact ck.fail
 case h_23 u x h =>
  have key:cls cx ge o=2:=by simp[cls,h]
  unfold tM;split
  .split
   .split
    .rename_i K;exact ck.ret ((zN K<|D (by rw[key];simp)<|by rw[key];simp).1.trans<|wk.bu _ _ _)
    .exact ck.fail
   .exact ck.fail
  .exact ck.fail
 case h_24=>exact ck.fail
end
end Go.Ge
namespace Go.Ge
open RowKit
def Le(c e:St):Prop:=∀b f,c.mem b=aa f->e.mem b=aa f
structure Rel (bM cH pX oO:St):Prop where
 s1:pX.bh=bM.bh
 s2:oO.bh=cH.bh
 m:∀b,oO.mem b=match pX.mem b with|some x=>aa x|none=>cH.mem b
 nv:∀b,pX.mem b=af->bM.mem b=af
section
variable {bM cH pX oO ρ1 ρ2:St}
def Rel.refl(h:Le bM cH):Rel bM cH bM cH where
 s1:=rfl
 s2:=rfl
 m:=λb=>by
  cases c:bM.mem b with
  | none=>rfl
  | some x=>exact h b x c
 nv:=λ_ h=>h
def Rel.le(h:Rel bM cH pX oO):Le pX oO:=λb e c=>by rw[h.m,c]
def Rel.trans(h:Rel bM cH pX oO)(k:Rel pX oO ρ1 ρ2):Rel bM cH ρ1 ρ2 where
 s1:=k.s1.trans h.s1
 s2:=k.s2.trans h.s2
 m:=λb=>by
  rw[k.m b];cases c:ρ1.mem b with
  | some x=>rfl
  | none=>rw[h.m b,k.nv b c]
 nv:=λb c=>h.nv b (k.nv b c)
def Rel.cw(f:Le bM cH){b bx}:Rel bM cH (bM.cw b bx) (cH.cw b bx) where
 s1:=rfl
 s2:=rfl
 m:=λc=>by
  by_cases e:c=b
  .subst e;simp[St.cw]
  .rw[xy,xy,aZ _ e,aZ _ e];exact(Rel.refl f).m c
 nv:=λc g=>by
  by_cases e:c=b
  .subst e;simp[St.cw] at g
  .rw[xy,aZ _ e] at g;exact g
def Da{σ τ}(h:τ.bh=σ.bh) x:cW τ x=cW σ x:=by
 cases x<;>simp[cW,h]
def Db(h:Le bM cH){e v l}(c:jv e bM v=aa l):jv e cH v=aa l:=by
 unfold jv at c⊢;cases v with
 | whole b aP =>
   simp only at c⊢;cases f:bM.mem b with
   | none=>rw[f] at c;cases c
   | some g=>rw[f] at c;rw[h b g f];exact c
 | part b aP lo n =>
   simp only at c⊢;cases f:bM.mem b with
   | none=>rw[f] at c;cases c
   | some g=>rw[f] at c;rw[h b g f];exact c
 | data u y=>cases u<;>exact c
 | _=>exact c
def Zo(h:Le bM cH):∀{t v x},tu bM t v=aa x->tu cH t v=aa x:=by
 intro t;induction t with
 | slice e l=>intro v x c;exact Db h c
 | pair a b f g =>
   intro v x c;cases v with
   | mix p q =>
     obtain⟨y,z,i,j,rfl⟩:=FY c;exact P1 (f i) (g j)
   | data u y=>exact c
   | _=>cases c
 | alt u a r f k =>
   intro v x c;cases v with
   | ve=>exact(rD c).2.1 _
   | _=>exact c
 | _=>intro v x c;cases v<;>exact c
def sr(h:Le bM cH){b aP}(c:live bM b aP=true):live cH b aP=true:=by
 unfold live at c⊢;cases e:bM.mem b with
 | none=>rw[e] at c;cases c
 | some f=>rw[e] at c;rw[h b f e];exact c
def adZ(h:Le bM cH){v n}(c:lenOf bM v=aa n):lenOf cH v=aa n:=by
 unfold lenOf at c⊢;cases v with
 | whole b aP =>
   simp only at c⊢;cases e:bM.mem b with
   | none=>rw[e] at c;cases c
   | some f=>rw[e] at c;rw[h b f e];exact c
 | part b aP lo g =>
   simp only at c⊢;cases hv:live bM b aP with
   | false=>rw[hv] at c;cases c
   | true=>rw[hv] at c;rw[sr h hv];exact c
 | data u y=>cases u<;>exact c
 | _=>exact c
def aaT(h:Le bM cH){e v l}(b:y6 e bM v=aa l):y6 e cH v=aa l:=by
 unfold y6 at b⊢;split at b
 .exact b
 .exact Db h b
def Me(h:Le bM cH){b aP r}(c:Au bM b aP=aa r):Au cH b aP=aa r:=by
 unfold Au at c⊢;cases e:bM.mem b with
 | none=>rw[e] at c;cases c
 | some f=>rw[e] at c;rw[h b f e];exact c
def P9(h:Le bM cH){b}(c:freeze bM b=aa pX):∃oO,freeze cH b=aa oO/\Rel bM cH pX oO:=by
 unfold freeze at c⊢;cases g:bM.mem b with
 | none=>rw[g] at c;cases c
 | some i =>
   rw[g] at c;rw[h b i g];cases e:i.ro with
   | true =>
     simp only[e,xj,Lh] at c⊢;subst c;exact⟨_,rfl,Rel.refl h⟩
   | false =>
     cases f:i.lk with
     | true=>simp[e,f] at c
     | false =>
       simp only[e,f,BM,Lh] at c⊢;subst c;exact⟨_,rfl,Rel.cw h⟩
def Xy:∀{v bM cH pX},Le bM cH->ji bM v=aa pX->∃oO,ji cH v=aa oO/\Rel bM cH pX oO:=by
 intro v;induction v with
 | mix p q e f =>
   intro bM cH pX h c;obtain⟨ρ1,i,j⟩:=yw c;obtain⟨ρ2,k,g⟩:=e h i;obtain⟨oO,l,m⟩:=f g.le j;exact⟨oO,by simp only[ji,k,l],g.trans m⟩
 | whole b aP=>intro bM cH pX h c;exact P9 h c
 | part b aP lo n=>intro bM cH pX h c;exact P9 h c
 | _=>intro bM cH pX h c;obtain rfl:=aI c;exact⟨_,rfl,Rel.refl h⟩
def Dc(h:Le bM cH){t x v}(b:BZ bM t v=aa (x,pX)):∃oO,BZ cH t v=aa (x,oO)/\Rel bM cH pX oO:=by
 unfold BZ at b⊢;cases v with
 | data u y =>
   simp only at b⊢;split at b
   .rename_i z i;obtain⟨rfl,rfl⟩:=eN (aI b);exact⟨_,rfl,Rel.refl h⟩
   .cases b
 | _ =>
   simp only at b⊢;split at b
   .rename_i y ρ1 c e;obtain⟨rfl,rfl⟩:=eN (aI b);obtain⟨oO,f,g⟩:=Xy h e;rw[Zo h c,f];exact⟨oO,rfl,g⟩
   .cases b
def ES:∀{A x vs bM cH pX},Le bM cH->gB bM A vs=aa (x,pX)->∃oO,gB cH A vs=aa (x,oO)/\Rel bM cH pX oO:=by
 intro A;induction A with
 | pair t r g c =>
   intro x vs bM cH pX h b;cases vs with
   | nil=>cases b
   | cons v vs =>
     simp only[gB] at b⊢;split at b
     .rename_i p ρ1 i;obtain⟨ρ2,j,e⟩:=Dc h i;split at b
      .rename_i q f k;obtain⟨rfl,rfl⟩:=eN (aI b);obtain⟨oO,l,m⟩:=c e.le k;exact⟨oO,by simp only[j,l],e.trans m⟩
      .cases b
     .cases b
 | unit =>
   intro x vs bM cH pX h b;cases vs with
   | nil=>obtain⟨rfl,rfl⟩:=eN (aI b);exact⟨_,rfl,Rel.refl h⟩
   | cons v vs=>cases b
 | _=>intro x vs bM cH pX h b;cases vs<;>cases b
def OY{t}:∀{parts x e bM cH pX},Le bM cH->(∀o∈parts.map (·.2),cW bM o=cW cH o)->iG bM t x parts=aa (e,pX) ->
  ∃oO,iG cH t x parts=aa (e,oO)/\Rel bM cH pX oO:=by
 intro parts;induction parts with
 | nil=>intro x e bM cH pX h g b;obtain⟨rfl,rfl⟩:=eN (aI b);exact⟨_,rfl,Rel.refl h⟩
 | cons p r j =>
   obtain⟨k,o⟩:=p;intro x e bM cH pX h g b;simp only[iG] at b⊢;split at b
   .rename_i u v;split at b
    .rename_i y ρ1 i;rw[(g o aT)] at i;obtain⟨ρ2,l,f⟩:=Dc h i;split at b
     .rename_i z m;obtain⟨oO,n,q⟩:=j f.le (λs c=>by rw[Da f.s1,Da f.s2];exact g s (by simp at c⊢;exact .inr c)) b;exact⟨oO,by simp only[l,m,n],f.trans q⟩
     .cases b
    .cases b
   .cases b
def Gf{e}:∀{parts l i bM cH pX},Le bM cH->(∀o∈parts.map (·.2),cW bM o=cW cH o)->fF bM e l parts=aa (i,pX) ->
  ∃oO,fF cH e l parts=aa (i,oO)/\Rel bM cH pX oO:=by
 intro parts;induction parts with
 | nil=>intro x v bM cH pX h j b;obtain⟨rfl,rfl⟩:=eN (aI b);exact⟨_,rfl,Rel.refl h⟩
 | cons p r n =>
   obtain⟨k,o⟩:=p;intro l i bM cH pX h j b;simp only[fF] at b⊢;split at b
   .rename_i y ρ1 m;rw[(j o aT)] at m;obtain⟨ρ2,q,g⟩:=Dc h m;cases c:Nat.blt k l.length with
    | false=>rw[c] at b;cases b
    | true =>
      rw[c] at b;obtain⟨oO,s,t⟩:=n g.le (λu f=>by rw[Da g.s1,Da g.s2];exact j u (by simp at f⊢;exact .inr f)) b;exact⟨oO,by simp only[q,xj,s],g.trans t⟩
   .cases b
def lift(c:St)(d:Option Nat)(y:St):St :=
 { bh:=match d with|some d=>λt=>bif Nat.beq t d then y.bh d else c.bh t|none=>c.bh
   mem:=λb=>match y.mem b with|some x=>aa x|none=>c.mem b }
def aaU(R:Rel bM cH pX oO) d v:lift cH d (pX.bu d v)=oO.bu d v:=by
 have c:=funext λb=>(R.m b).symm;cases d with
 | none=>simp only[lift,St.bu,c,<-R.s2]
 | some d =>
   simp only[lift,St.bu,St.put,<-R.s2]
   congr 1
   funext t;cases e:Nat.beq t d with
   | true=>simp
   | false=>simp
def LT(b:St)(d:Option Nat)(c e:Tree St):Prop:=∀y,c.run=aa y->e.run=aa (lift b d y)
variable {d:Option Nat}
def LT.fail{T}:LT cH d .fail T:=λy h=>by cases h
def LT.ret(R:Rel bM cH pX oO){v}:LT cH d (.ret<|pX.bu d v) (.ret<|oO.bu d v):=λy h=>by
 obtain rfl:=aI h;rw[aaU R];rfl
def LT.Xz(R:Rel bM cH pX oO){k v}:LT cH (aa k) (.ret<|pX.put k v) (.ret<|oO.put k v):=LT.ret R
def LT.store(R:Rel bM cH pX oO):LT cH af (.ret pX) (.ret oO):=LT.ret (v:=.undef) R
def LT.bif{c t u}(h:LT cH d t u):LT cH d (bif c then t else .fail) (bif c then u else .fail):=by cases c<;>first|exact LT.fail|exact h
def LT.UI{c b t u}(e:c=true->b=true)(h:LT cH d t u):LT cH d (bif c then t else .fail) (bif b then u else .fail):=by
 cases c with
 | false=>exact LT.fail
 | true=>rw[e rfl];exact h
def LT.ju{c t u}(h:LT cH d t u):LT cH d (.ju c t) (.ju c u):=λy b=>by
 obtain⟨rfl,e⟩:=cP b;exact h y e
def LT.look{T}{o:Option T}{k b}(h:∀x,LT cH d (k x) (b x)):LT cH d (.look o k) (.look o b):=λy c=>by
 obtain⟨x,rfl,e⟩:=cg c;exact h x y e
def LT.node{c t e b f}(h:LT cH d t b)(k:LT cH d e f):LT cH d (.node c t e) (.node c b f):=λy g=>by
 have:=gD g;cases c with
 | true=>exact h y this
 | false=>exact k y this
def LT.bind{α}{t:Tree α}{f g}(h:∀x,t.run=aa x->LT cH d (f x) (g x)):LT cH d (t.bind f) (t.bind g):=λy c=>by
 obtain⟨x,b,e⟩:=bind_some c;rw[Tree.run_bind,b];exact h x b y e
def LT.bA(e:Le bM cH){k b}(f:bM.mem b=cH.mem b){val tid buf}{v:Nat->cp} :
  LT cH (aa k) (bM.bA b val tid buf λc σ=>.ret (σ.put k<|v c)) (cH.bA b val tid buf λc σ=>.ret (σ.put k<|v c)):=by
 unfold St.bA;rw[<-f];cases g:bM.mem b with
 | none=>exact LT.Xz (Rel.cw e)
 | some bx =>
   simp only;cases bx.lk with
   | true=>exact LT.fail
   | false=>exact LT.Xz (Rel.cw e)
end
end Go.Ge
namespace Go.Ge
open RowKit
section
variable {bM cH:St} {d:Option Nat} {cx:Ctx} {nb:Nat} {bf:List Nat} {inl:Nat->List cp->St->Tree (cp×St)}
def Ef(b:Le bM cH)(c:∀k,d=aa k->bM.mem (nb+k)=cH.mem (nb+k)){ty v}:LT cH d (kj cx nb bf d ty v bM) (kj cx nb bf d ty v cH):=by
 have R:=Rel.refl b;unfold kj;cases v with
 | undef=>exact LT.bif (LT.ret R)
 | p7 =>
   simp only;split
   .rename_i k e _;cases dc bf k with
    | true=>exact LT.bA b (c k rfl)
    | false=>exact LT.Xz R
   .exact LT.ret R
 | _=>exact LT.ret R
def UJ(e:Le bM cH){c a b}:LT cH d (p8 d c a b bM) (p8 d c a b cH):=by
 have R:=Rel.refl e;unfold p8;split
 .split
  .split
   .exact LT.ret R
   .exact LT.fail
  .exact LT.node (LT.ret R) (LT.ret R)
 .exact LT.fail
def UK(c:Le bM cH){ty a}:LT cH d (mx cx d ty a bM) (mx cx d ty a cH):=by
 have R:=Rel.refl c;unfold mx;cases a with
 | cell u x=>exact LT.bif (LT.ret R)
 | ptr b aP p =>
   ((try dsimp only);split<;>first|exact LT.fail|(rename_i e;rw[(c b) _ e];try dsimp only))
   exact LT.bif (LT.bind λx _=>LT.bif (LT.ret R))
 | _=>exact LT.fail
def Mf{pX oO}(R:Rel bM cH pX oO){b aP p fit v}:LT cH af (storeAt b aP p fit v pX) (storeAt b aP p fit v oO):=by
 unfold storeAt
 ((try dsimp only);split<;>first|exact LT.fail|(rename_i e;rw[(R.le b) _ e];try dsimp only))
 exact LT.bif (LT.bind λx _=>LT.bif (LT.bind λc _=>LT.store (R.trans<|Rel.cw R.le)))
def LT.al1{c t u b e}(h:LT cH d t u)(f:LT cH d b e):LT cH d (bif c then t else b) (bif c then u else e):=by cases c<;>first|exact f|exact h
def XA{pX oO}(R:Rel bM cH pX oO){b aP p n v}:LT cH af (uk b aP p n v pX) (uk b aP p n v oO):=by
 unfold uk
 ((try dsimp only);split<;>first|exact LT.fail|(rename_i e;rw[(R.le b) _ e];try dsimp only))
 exact LT.bif (LT.bind λx _=>LT.bif (LT.bind λc _=>LT.bif (LT.store<|R.trans<|Rel.cw R.le)))
def R6(c:Le bM cH){bf ty a v}:LT cH af (mU cx bf ty a v bM) (mU cx bf ty a v cH):=by
 have R:=Rel.refl c;unfold mU;cases a with
 | ptr b aP p =>
   ((try dsimp only);split<;>first|exact LT.fail|(rename_i e;rw[(c b) _ e];try dsimp only))
   refine LT.bif (LT.bind λf _=>?_);split
   .refine LT.bif (LT.al1 (XA R) ?_);split
    .rename_i y pX g;obtain⟨oO,h,i⟩:=Dc c g;rw[h];exact Mf i
    .exact LT.fail
   .exact LT.bif (Mf R)
 | _=>exact LT.fail
def aaV{n lo hi}(b:∀x∈lo.toList++hi.toList,cW bM x=cW cH x):bounds bM n lo hi=bounds cH n lo hi:=by
 unfold bounds
 grind
def R7(e:Le bM cH){ty x lo hi}(i:∀x∈lo.toList++hi.toList,cW bM x=cW cH x):LT cH d (mV cx d ty x lo hi bM) (mV cx d ty x lo hi cH):=by
 have R:=Rel.refl e;have b:∀n,bounds bM n lo hi=bounds cH n lo hi:=λn=>aaV i;unfold mV;split
 .rename_i s _;rw[b]
  ((try dsimp only);split<;>first|exact LT.fail|skip)
  exact LT.ju (LT.ret R)
 .rw[b];refine LT.bif ?_
  ((try dsimp only);split<;>first|exact LT.fail|skip)
  exact LT.ju (LT.ret R)
 .rename_i u c f l n _
  ((try dsimp only);split<;>first|exact LT.fail|(rename_i g;rw[(e c) _ g];try dsimp only))
  refine LT.bif ?_;rw[b]
  ((try dsimp only);split<;>first|exact LT.fail|skip)
  exact LT.ju (LT.ret R)
 .rename_i u c f _
  ((try dsimp only);split<;>first|exact LT.fail|(rename_i g;rw[(e c) _ g];try dsimp only))
  refine LT.bif ?_;split
  .refine LT.bif ?_;split
   .exact LT.ret R
   .rw[b]
    ((try dsimp only);split<;>first|exact LT.fail|skip)
    exact LT.ju (LT.ret R)
  .exact LT.fail
 .rw[b];refine LT.UI (λh=>?_) ?_
  .simp at h⊢;exact⟨sr e h.1,h.2⟩
  ·((try dsimp only);split<;>first|exact LT.fail|skip)
   exact LT.ju (LT.ret R)
 .rename_i m u c f _
  ((try dsimp only);split<;>first|exact LT.fail|(rename_i g;rw[(e c) _ g];try dsimp only))
  refine LT.bif ?_;split
  .rw[b];refine LT.bif ?_
   ((try dsimp only);split<;>first|exact LT.fail|skip)
   exact LT.ju (LT.ret R)
  .exact LT.fail
 .exact LT.fail
def ad0(c:Le bM cH){b aP i}:∀{m k},LT cH d (Lt d b aP bM i m k) (Lt d b aP cH i m k):=by
 intro m;induction m with
 | zero=>exact LT.fail
 | succ m e=>exact LT.node (LT.ret<|Rel.refl c) e
def zO(b:Le bM cH){ty x i}:LT cH d (eH cx d ty x i bM) (eH cx d ty x i cH):=by
 have R:=Rel.refl b;unfold eH;split
 .exact LT.bif (LT.look λ_=>LT.ret R)
 .exact LT.bif (LT.look λ_=>LT.ret R)
 ·((try dsimp only);split<;>first|exact LT.fail|(rename_i c;rw[((λr e=>Me b e)) _ c];try dsimp only))
  exact LT.bif (LT.ju<|LT.ret R)
 ·((try dsimp only);split<;>first|exact LT.fail|(rename_i c;rw[((λr e=>Me b e)) _ c];try dsimp only))
  exact LT.bif (LT.ju<|LT.ret R)
 .exact LT.UI (sr b) (LT.ju<|LT.ret R)
 .split
  .refine LT.UI (λh=>?_) (ad0 b);simp at h⊢;exact⟨h.1,sr b h.2⟩
  .exact LT.fail
 .exact LT.fail
def R8(b:Le bM cH){ty x i}:LT cH d (mW cx d ty x i bM) (mW cx d ty x i cH):=by
 unfold mW;split
 .refine LT.UI (λh=>?_) ?_
  .simp at h⊢;exact⟨h.1,sr b h.2⟩
  .split
   .exact LT.bif (LT.ret<|Rel.refl b)
   .exact LT.fail
 .exact zO b
def R9(b:Le bM cH){ty x i}:LT cH d (mX cx d ty x i bM) (mX cx d ty x i cH):=by
 have R:=Rel.refl b;unfold mX;split
 .exact LT.look λ_=>LT.ret R
 .exact LT.bif (LT.look λ_=>LT.ret R)
 .exact LT.fail
def HJ(b:Le bM cH){s x k}:LT cH d (fc cx d s x k bM) (fc cx d s x k cH):=by
 have R:=Rel.refl b;unfold fc;split
 .refine LT.bif ?_;split
  .exact LT.ret R
  .exact LT.fail
 .refine LT.UI (sr b) ?_;split
  .split
   .exact LT.ret R
   .exact LT.fail
  .split
   .split
    .exact LT.ret R
    .exact LT.fail
   .exact LT.fail
 .exact LT.fail
def Mg(b:Le bM cH)(c:∀k,d=aa k->bM.mem (nb+k)=cH.mem (nb+k)){s t x}:LT cH d (iq cx nb d s t x bM) (iq cx nb d s t x cH):=by
 have R:=Rel.refl b;unfold iq;split
 .exact LT.ret R
 .exact LT.ret R
 .split
  .exact LT.ju (LT.bA b<|c _ rfl)
  .exact LT.fail
 ·((try dsimp only);split<;>first|exact LT.fail|(rename_i e;rw[((λr f=>Db b f)) _ e];try dsimp only))
  exact LT.ret R
 .exact LT.fail
def Eg(c:Le bM cH)(h:∀k,d=aa k->bM.mem (nb+k)=cH.mem (nb+k)){ty s x}:LT cH d (iH cx nb d ty s x bM) (iH cx nb d ty s x cH):=by
 unfold iH;split
 .rename_i k e _
  ((try dsimp only);split<;>first|exact LT.fail|(rename_i f;rw[((λr (i:_=aa r)=>aaT c i)) _ f];try dsimp only))
  split
  .exact LT.ju (LT.bA c<|h _ rfl)
  .rename_i b j;cases f:bM.mem b with
   | none=>exact LT.fail
   | some g =>
     rw[c b g f];cases m:jv e bM _ with
     | none=>exact LT.fail
     | some l =>
       rw[Db c m];simp only;cases (g.lk||!ait cx ty g.tid) with
       | true=>exact LT.fail
       | false=>exact LT.ju (LT.Xz<|Rel.cw c)
  .exact LT.fail
 .exact LT.fail
def aaW(c:Le bM cH){f args}(h:find cx.Ua f≠af):LT cH d (y8 cx zD d f args bM) (y8 cx inl d f args cH):=by
 unfold y8;split
 .split
  .have key:∀{A vs x},jj bM A vs=aa x->jj cH A vs=aa x:=by
    intro A;induction A with
    | pair t r i e =>
      intro vs x b;cases vs with
      | nil=>cases b
      | cons v vs =>
        simp only[jj] at b⊢;split at b
        .rename_i p q j g;rw[Zo c j,e g];exact b
        .cases b
    | unit=>intro vs x b;cases vs<;>exact b
    | _=>intro vs x b;cases vs<;>cases b
   ((try dsimp only);split<;>first|exact LT.fail|(rename_i g;rw[((λr (k:_=aa r)=>key k)) _ g];try dsimp only))
   exact LT.look λ_=>LT.ret (Rel.refl c)
  .split
   .rename_i x pX l;obtain⟨oO,m,n⟩:=ES c l;rw[m];exact LT.look λ_=>LT.ret n
   .exact LT.fail
 .grind
def LT.Zp{pX oO}(R:Rel bM cH pX oO){k b}(e:bM.mem b=cH.mem b){val tid buf}{v:Nat->cp} :
  LT cH (aa k) (pX.bA b val tid buf λc σ=>.ret (σ.put k<|v c)) (oO.bA b val tid buf λc σ=>.ret (σ.put k<|v c)):=by
 have f:pX.mem b=oO.mem b:=by
  rw[R.m b];cases h:pX.mem b with
  | some x=>rfl
  | none=>rw[<-e,R.nv b h]
 unfold St.bA;rw[<-f];cases pX.mem b with
 | none=>exact LT.Xz (R.trans<|Rel.cw R.le)
 | some g =>
   simp only;cases g.lk with
   | true=>exact LT.fail
   | false=>exact LT.Xz (R.trans<|Rel.cw R.le)
def Sa(b:Le bM cH)(c:∀k,d=aa k->bM.mem (nb+k)=cH.mem (nb+k)){e args}:LT cH d (mY nb e d args bM) (mY nb e d args cH):=by
 unfold mY;split
 .split
  .rename_i l pX f;obtain⟨oO,g,h⟩:=Dc b f;rw[g];exact LT.bif (LT.ju<|LT.Zp h<|c _ rfl)
  .exact LT.fail
 .exact LT.fail
def aaX{pX oO}(h:Le pX oO){e v r}(c:Av e pX v=aa r):Av e oO v=aa r:=by
 cases v with
 | part b aP lo n =>
   simp only[Av] at c⊢;cases f:pX.mem b with
   | none=>rw[f] at c;cases c
   | some g=>rw[f] at c;rw[h b g f];exact c
 | whole b aP =>
   simp only[Av] at c⊢;cases f:pX.mem b with
   | none=>rw[f] at c;cases c
   | some g=>rw[f] at c;rw[h b g f];exact c
 | _=>cases c
def XB(f:Le bM cH){e A res spec args}:LT cH d (uq e A res spec d args bM) (uq e A res spec d args cH):=by
 unfold uq;split
 .split
  .rename_i x pX h;obtain⟨oO,i,c⟩:=ES f h;rw[i];simp only;split
   .rename_i b j m l g;rw[aaX c.le g];refine LT.look λn=>?_;cases res with
    | true =>
      cases d with
      | none=>exact LT.fail
      | some k=>exact LT.Xz (c.trans<|Rel.cw c.le)
    | false=>cases d<;>exact LT.bif (LT.ret<|c.trans<|Rel.cw c.le)
   .exact LT.fail
  .exact LT.fail
 .exact LT.fail
def XC(b:Le bM cH)(h:∀k,d=aa k->bM.mem (nb+k)=cH.mem (nb+k)){f args}(c:y7 cx bf d f=af->find cx.Ua f≠af\/(find cx.Ua f=af/\∃e,find cx.PV f=aa (.clone e)))(i:∀s,y7 cx bf d f=aa s->(∃e,s=.clone e)\/∃e A r q,s=.own e A r q) :
  LT cH d (wc cx nb bf zD d f args bM) (wc cx nb bf inl d f args cH):=by
 unfold wc;split
 .exact Sa b h
 .exact XB b
 .rename_i m n;have j:y7 cx bf d f=none:=by
   cases o:y7 cx bf d f with
   | none=>rfl
   | some s =>
     simp_all
  rcases c j with g|⟨g,e,l⟩
  .exact aaW b g
  .unfold y8;rw[g,l];exact LT.fail
def UL{s f}(h:y7 cx bf d f=aa s):(∃e,s=.clone e)\/∃e A r q,s=.own e A r q:=by
 unfold y7 at h
 grind
def aaY:∀{ps k},(∀x∈ps.map (·.2),cW bM x=cW cH x)->B1 bM k ps=B1 cH k ps:=by
 intro ps;induction ps with
 | nil=>intro k _;rfl
 | cons p r b =>
   simp only[B1]
   grind
def Jf{fs}:∀{ps v},(∀x∈ps.map (·.2),cW bM x=cW cH x)->my bM fs v ps=my cH fs v ps:=by
 intro ps;induction ps with
 | nil=>intro v _;rfl
 | cons p r b =>
   intro v h;simp only[my];simp_all
def any_eq:∀{ps:List (Nat×Operand)},(∀x∈ps.map (·.2),cW bM x=cW cH x)->ps.any (λp=>sb (cW bM p.2))=ps.any (λp=>sb (cW cH p.2)):=by
 intro ps;induction ps with
 | nil=>intro _;rfl
 | cons p r b=>intro h;simp_all
def UM{t ps v pX}(c:Le bM cH)(b:∀x∈ps.map (·.2),cW bM x=cW cH x)(h:p9 bf bM t ps=aa (v,pX)):∃oO,p9 bf cH t ps=aa (v,oO)/\Rel bM cH pX oO:=by
 unfold p9 at h⊢;rw[any_eq b,Jf b] at h;cases f:dc bf 8600000&&ps.any (λp=>sb (cW cH p.2)) with
 | true =>
   rw[f] at h;simp only[xj] at h⊢;split at h
   case h_2=>cases h
   rename_i e;obtain⟨rfl,rfl⟩:=eN (aI h);exact⟨cH,rfl,Rel.refl c⟩
 | false =>
   rw[f] at h;simp only[BM] at h⊢;split at h
   case h_2=>cases h
   rename_i e;obtain⟨rfl,rfl⟩:=eN (aI h);obtain⟨oO,g,i⟩:=OY c b e;exact⟨oO,by rw[g],i⟩
def aaZ(C:Le bM cH){o:Oper}{ge:Option Nat}(hge:sf o cH=ge)(I:cls cx ge o≠3)(j:∀x∈ir o.op,cW bM x=cW cH x)(F:∀k,o.dst=aa k->bM.mem (nb+k)=cH.mem (nb+k)) :
  LT cH o.dst (sd cx nb bf zD o bM) (sd cx nb bf inl o cH):=by
 have R:=Rel.refl C;unfold sd;cases D:o.op with
 | move x=>simp only[D,ir] at j⊢;rw[j x aT];exact Ef C F
 | assign x=>simp only[D,ir] at j⊢;rw[j x aT];exact Ef C F
 | pick c a b=>simp only[D,ir] at j⊢;rw[j c aT,j a aT,j b aT];exact UJ C
 | alloc e =>
   simp only;split
   .rename_i k t E hT;rw[E];unfold wZ;split
    .exact absurd (by simp[cls,D,hT]) I
    .exact LT.bA C (F k E)
   .rename_i k E hT;rw[E];split
    .rename_i V;exact absurd (by simp[cls,D,hT,V]) I
    .exact LT.bif (LT.bA C<|F k E)
   .exact LT.fail
 | box e x =>
   simp only[D,ir] at j⊢;rw[j x aT];cases E:o.dst with
   | none=>exact LT.fail
   | some k =>
     have V:find cx.wb e=none:=by
      cases V:find cx.wb e with
      | none=>rfl
      | some fs=>exact absurd (by simp[cls,D,V]) I
     cases cW cH x<;>simp only[FF,V]<;>first|exact LT.fail|exact LT.bA C (F k E)
 | build t ps =>
   simp only[D] at j⊢;split
   .split
    .rename_i L;obtain⟨oO,M,K⟩:=UM C j L;rw[M];exact LT.ret K
    .exact LT.fail
   .split
    .rename_i L;obtain⟨oO,M,K⟩:=Gf C j L;rw[M];exact LT.ret K
    .exact LT.fail
   .split
    .split
     .rw[Jf j];split
      .exact LT.ret R
      .exact LT.ret R
      .exact LT.fail
     .exact LT.fail
    .exact LT.fail
   .exact LT.fail
 | buildSlice t n ps =>
   simp only[D] at j⊢;split
   .split
    .rename_i k W Z;have E:=(EP W).1;rw[E];exact LT.bA C (F k E)
    .refine LT.bif ?_;split
     .rename_i L;obtain⟨oO,M,K⟩:=Gf C j L;rw[M];split
      .rename_i k E;rw[yz E];exact LT.Zp K (F k<|yz E)
      .exact LT.ret K
     .exact LT.fail
   .unfold C6;rw[aaY j];split
    .rename_i k e v E _ _;rw[E];exact LT.bif (LT.bA C<|F _ E)
    .exact LT.fail
   .exact LT.fail
 | load t a=>simp only[D,ir] at j⊢;rw[j a aT];exact UK C
 | store t a x =>
   simp only[D,ir] at j⊢;rw[j a aT,j x aT];cases E:o.dst with
   | none=>exact R6 C
   | some k=>exact LT.fail
 | nilCheck x =>
   simp only[D,ir] at j⊢;rw[j x aT];cases cW cH x with
   | ptr b aP p=>exact LT.UI (sr C) (LT.ret R)
   | cell t x=>exact LT.ret R
   | fn f c=>exact LT.ret R
   | _=>exact LT.fail
 | binOp op xt x y yt =>
   simp only[D,ir] at j⊢;rw[j x aT,j y aT];intro z hz;obtain⟨v,X,h2⟩:=bind_some hz;have F:(adv cH (find cx.T xt) (dc cx.DW xt) op (cW cH x)<|cW cH y).run=aa v:=by
    unfold adv at X⊢;split at X
    .obtain⟨G,I⟩:=ay X;simp only[gw] at G;rw[sr C G.1,G.2];exact I
    .obtain⟨G,I⟩:=ay X;simp at G;rw[sr C G.1,G.2];exact I
    .exact X
   rw[Tree.run_bind,F];exact LT.ret R z h2
 | unOp op t x=>simp only[D,ir] at j⊢;rw[j x aT];exact LT.bind λ_ _=>LT.ret R
 | convert s t x=>simp only[D,ir] at j⊢;rw[j x aT];exact Mg C F
 | makeFunc fn first H =>
   simp only[D] at j⊢;cases fn with
   | func f =>
     simp only;have:H.toList.map _=H.toList.map (cW cH):=Y7 λx hx=>j x (JM _ hx);rw[this];split
     .exact LT.ret R
     .exact LT.fail
   | _=>exact LT.fail
 | slice t x lo hi m =>
   simp only[D,ir] at j⊢;cases m with
   | some m=>exact LT.fail
   | none =>
     simp only;rw[j x aT];exact R7 C λy hy=>j y (v8 _ hy)
 | fieldAddr s x k=>simp only[D,ir] at j⊢;rw[j x aT];exact HJ C
 | field xt x k =>
   simp only[D,ir] at j⊢;rw[j x aT];split
   .refine LT.bif ?_;split
    .exact LT.ret R
    .exact LT.fail
   .exact LT.fail
 | indexAddr t x i =>
   simp only[D,ir] at j⊢;rw[j x aT,j i aT];split
   .cases dc bf 5000000 with
    | true=>exact R8 C
    | false=>exact zO C
   .exact LT.fail
 | index t x i =>
   simp only[D,ir] at j⊢;rw[j x aT,j i aT];split
   .exact R9 C
   .exact LT.fail
 | makeSlice t l c =>
   simp only[D,ir] at j⊢;rw[j l aT,j c aT];cases E:o.dst with
   | none=>exact LT.fail
   | some k =>
     split
     .rename_i k' _ _ _ _ _ hk' _ _ _;obtain rfl:=aI hk';exact LT.ju (LT.ju<|LT.bA C<|F k E)
     .exact LT.fail
 | extract t k =>
   simp only[D,ir] at j⊢;rw[j t aT];split
   ·((try dsimp only);split<;>first|exact LT.fail|skip)
    exact LT.ret R
   .exact LT.fail
 | call c =>
   simp only[D,ir] at j⊢;have S:c.args.toList.map _=c.args.toList.map (cW cH):=Y7 λx hx=>j x (JM _ hx);unfold xp;rw[S];cases G:c.callee with
   | builtin b =>
     simp only;split
     .rename_i x t _ _;cases Zi _ x with
      | true =>
        ((try dsimp only);split<;>first|exact LT.fail|(rename_i hq;rw[((λr (hr:_=aa r)=>adZ C hr)) _ hq];try dsimp only))
        exact LT.ret R
      | false =>
        simp;split
        .refine LT.UI (λh=>?_) (LT.ret R);simp at h⊢;exact⟨sr C h.1,h.2⟩
        .exact LT.fail
     .split
      .exact Eg C F
      .exact Eg C F
      .exact LT.fail
     .exact absurd (by simp[cls,D,G]) I
     .exact absurd (by simp[cls,D,G]) I
     .exact LT.bind λ_ _=>LT.ret R
     .exact LT.bind λ_ _=>LT.ret R
     .exact LT.fail
   | value f =>
     simp only;rw[j f<|by rw[G];simp];split
     .rename_i g H j;have U:(H.all λb=>live bM b.1 b.2)=true->_=true:=λh=>by
       rw[wa] at h⊢;exact λb hm=>sr C (h b hm)
      refine LT.UI U (XC C F (λhq=>?_) λs hs=>UL hs);have Y:ge=aa g:=by rw[<-hge];simp[sf,D,G,j]
      cases O:find cx.Ua g with
      | some c=>exact .inl aT
      | none =>
        refine .inr ⟨rfl,?_⟩;cases J:find cx.PV g with
        | none=>exact absurd (by simp[cls,D,G,Y,O,J]) I
        | some s =>
          cases s with
          | clone e=>exact⟨e,rfl⟩
          | own e A r q=>simp[y7,J] at hq
          | _=>exact absurd (by simp[cls,D,G,Y,O,J]) I
     .exact LT.fail
   | invoke r m =>
     simp only;rw[j r<|by rw[G];simp];unfold tN;split
     .split
      .rename_i L;obtain⟨oO,M,K⟩:=ES C L;rw[M];exact LT.look λ_=>LT.ret K
      .exact LT.fail
     .exact LT.fail
 | makeInterface u x =>
   simp only[D,ir] at j⊢;rw[j x aT];unfold tM;split
   .split
    .split
     .rename_i L;obtain⟨oO,M,K⟩:=Dc C L;rw[M];exact LT.ret K
     .exact LT.fail
    .exact LT.fail
   .exact LT.fail
 | _=>exact LT.fail
end
end Go.Ge
namespace Go.Ge
open RowKit
def qa{l t}:dc l t=true↔t∈l:=by
 induction l with
 | nil=>simp[dc]
 | cons i r b =>
   simp only[dc,Ll,fh,b];constructor
   .rintro(h|h)
    .exact .inl (gx h)
    .exact .inr h
   .rintro(h|h)
    .subst h;exact .inl aT
    .exact .inr h
def kn{l t}:dc l t=false↔t∉l:=by
 rw[<-qa];simp
def XD{l}{t:Nat}(h:Operand.tmp t∈l):t∈tmpsOf l:=by
 induction l with
 | nil=>cases h
 | cons x r c =>
   rcases fh.1 h with b|b
   .subst b;exact ri ..
   .clear h;have h:=b;cases x<;>simp only[tmpsOf]
    case tmp k=>exact v8 _ (c h)
    all_goals exact c h
section
variable {cx:Ctx} {nb:Nat} {bf:List Nat} {inl:Nat->List cp->St->Tree (cp×St)} {σ aV τ:St}
structure UN (cx:Ctx) (nb:Nat) (o:Oper) (fp:Fp):Prop where
 own:∀k,o.dst=aa k->nb+k∈fp.rd
 sub:∀b∈fp.wr,b∈fp.rd
 w1:cls cx fp.fn o≠0->∀k,o.dst=aa k->nb+k∈fp.wr
 w2:cls cx fp.fn o≠0->cls cx fp.fn o≠1->∀b∈fp.rd,b∈fp.wr
 c3:cls cx fp.fn o≠3
def KM o σ (h:(B2 cx nb o σ).KF=false):UN cx nb o (B2 cx nb o σ):=by
 have c:∀k,o.dst=aa k->nb+k∈Go.Ge.own nb o:=λk e=>by simp[Go.Ge.own,e]
 unfold B2 at h⊢;dsimp only at h⊢;split at h<;>rename_i g
 .exact⟨λk e=>DP _ (c k e),λb f=>(nomatch f),λi=>absurd g i,λi=>absurd g i,by rw[g];decide⟩
 .exact⟨λk e=>DP _ (c k e),λb f=>DP _ f,λ_ k e=>c k e,λ_ j=>absurd g j,by rw[g];decide⟩
 .exact⟨λk e=>DP _ (c k e),λb f=>f,λ_ k e=>DP _ (c k e),λ_ _ b f=>f,by rw[g];decide⟩
 .cases h
def agE{ts rd}:Le { (σ.only ts rd) with bh:=σ.bh } σ:=λb f c=>by
 simp only[St.only] at c;cases e:dc rd b with
 | true=>rw[e] at c;exact c
 | false=>rw[e] at c;cases c
def UO{ts rd}:Le (σ.only ts rd) σ:=λb c e=>agE (ts:=ts) b c e
def UP{l rd x}(b:x∈l):cW (σ.only (tmpsOf l) rd) x=cW σ x:=by
 cases x with
 | tmp t =>
   have:=qa.2 (XD b);simp only[cW,St.only,this,xj]
 | _=>rfl
def agF{a b}(h:aj2 a b=true):a=b:=by
 cases a<;>cases b<;>first|rfl|cases h|exact congrArg aa (gx h)
def OZ o rd:sf o (σ.only (tmpsOf<|ir o.op) rd)=sf o σ:=by
 unfold sf;split
 .rename_i c b;split
  .rename_i x e;rw[UP<|by rw[b];simp[ir,e]]
  .rfl
 .rfl
def Dd{fp o}(f:fp.KF=false->UN cx nb o fp)(i:(jk cx nb bf inl fp o σ).run=aa aV):(sd cx nb bf inl o σ).run=aa aV:=by
 unfold jk at i;cases c:fp.KF with
 | true=>rw[c] at i;exact i
 | false =>
   have f:=f c;rw[c] at i;obtain⟨τ,g,v⟩:=bind_some i;obtain rfl:=aI v;obtain⟨e,g⟩:=ay g;have e:=agF e;have y:=aaZ (inl:=inl) UO (by rw[<-e];exact(OZ ..).symm) f.c3 (λx z=>UP z)
    (λk n=>by simp only[St.only,qa.2 (f.own k n),xj]) τ g
   rw[y];have t:=Xx e f.c3 (λq k n=>f.w1 q k n) (λq g b r=>by
    refine f.w2 q g b ?_;simp only[St.only] at r;cases j:dc fp.rd b with
    | true=>exact qa.1 j
    | false=>rw[j] at r;exact absurd rfl r) τ g
   have j:(λb=>match τ.mem b with|some x=>aa x|none=>σ.mem b)=λb=>bif dc fp.wr b then τ.mem b else σ.mem b:=by
    funext b;have s:b∈fp.rd->(σ.only (tmpsOf<|ir o.op) fp.rd).mem b=σ.mem b:=λh=>by simp only[St.only,qa.2 h,xj]
    cases u:dc fp.wr b with
    | true =>
      simp;cases l:τ.mem b with
      | some x=>rfl
      | none =>
        rw[<-s (f.sub b<|qa.1 u)];rcases t b with k|k
        .rw[<-k,l]
        .exact absurd l k.1
    | false =>
      rcases t b with k|k
      .rw[k];cases l:(σ.only _ fp.rd).mem b with
       | none=>rfl
       | some x=>exact(UO b x l).symm
      .exact absurd k.2 (kn.1 u)
   exact congrArg (λm=>aa _) j
def De{a b}(h:aaG a b=true){x}(c:x∈a):x∉b:=by
 simp only[aaG,wa,DT] at h;exact kn.1 (h x c)
def apart_spec{x y f g}(h:apart x y f g=true):f.KF=false/\g.KF=false/\(∀b∈f.wr,b∉g.rd)/\(∀b∈g.wr,b∉f.rd) /\
  (∀d,x.dst=aa d->d∉tmpsOf (ir y.op))/\(∀d,y.dst=aa d->d∉tmpsOf (ir x.op))/\(∀d e,x.dst=aa d->y.dst=aa e->d≠e):=by
 simp only[apart,gw,DT] at h;obtain⟨⟨⟨⟨⟨l,m⟩,n⟩,o⟩,c⟩,j⟩:=h;refine⟨l,m,λb k=>De n k,λb k=>De o k,λd i=>?_,λd i=>?_,λd e i r=>?_⟩
 .rw[i] at c;simp at c;exact kn.1 c.1
 .rw[i] at j;simp at j;exact kn.1 j
 .rw[i,r] at c;intro q;subst q;simp at c
def Gg{d wr ts rd}(f:∀k,d=aa k->k∉ts)(g:∀b∈wr,b∉rd):(lay σ d wr τ).only ts rd=σ.only ts rd:=by
 unfold St.only lay
 congr 1
 .funext t;cases c:dc ts t with
  | false=>rfl
  | true =>
    cases d with
    | none=>rfl
    | some k =>
      have:t≠k:=λe=>f k rfl (by rw[<-e];exact qa.1 c);simp[iI this]
 .funext b;cases c:dc rd b with
  | false=>rfl
  | true =>
    have:=λh=>g b h (qa.1 c);simp[kn.2 this]
def ad1{h g f i bM cH}(j:apart h g f i=true)(l:∀b∈f.wr,b∈f.rd)(m:(jk cx nb bf inl f h σ).run=aa bM)(n:(jk cx nb bf inl i g bM).run=aa cH) :
  ∃c,(jk cx nb bf inl i g σ).run=aa c/\(jk cx nb bf inl f h c).run=aa cH:=by
 obtain⟨x,y,z,u,A,C,D⟩:=apart_spec j;unfold jk at m n⊢;simp only[x,y,BM] at m n⊢;obtain⟨E,F,G⟩:=bind_some m;obtain rfl:=aI G;obtain⟨o,v,H⟩:=bind_some n;obtain rfl:=aI H;rw[Gg A z] at v;refine⟨lay σ g.dst i.wr o,by rw[Tree.run_bind,v];rfl,?_⟩;rw[Gg C u,Tree.run_bind,F];show aa _=aa _
 congr 1
 unfold lay
 congr 1
 .cases hi:h.dst with
  | none=>rfl
  | some k =>
    cases I:g.dst with
    | none=>rfl
    | some e =>
      have q:=D k e hi I;funext t;by_cases r:t=k
      .subst r;simp[iI q]
      .by_cases K:t=e
       .simp[iI r]
       .simp[iI r]
 .funext b;dsimp only;cases s:dc f.wr b with
  | false=>rfl
  | true =>
    have:=λJ=>u b J (l b<|qa.1 s);simp[kn.2 this]
inductive Reach (ops:Array Oper):Nat->Nat->Prop where
 | step {i:Nat} {o:Oper} {e:Edge} (h:ops[i]?=aa o) (he:e∈o.after) (hb:Region.binds .any e=true):Reach ops i e.on
 | more {i k:Nat} {o:Oper} {e:Edge} (h:ops[i]?=aa o) (he:e∈o.after) (hb:Region.binds .any e=true) (r:Reach ops e.on k):Reach ops i k
def Sc(c:Array Oper)(b:Array Bool):Prop:=∀i o e,b.getD i false=true->c[i]?=aa o->e∈o.after->Region.binds .any e=true->b.getD e.on false=true
def Reach.listed{ops listed}(f:Sc ops listed){i k}(h:Reach ops i k):listed.getD i false=true->listed.getD k false=true:=by
 induction h with
 | step h b c=>exact λe=>f _ _ _ e h b c
 | more h b c r g=>exact λe=>g (f _ _ _ e h b c)
def Reach.ready{ops listed}(g:Sc ops listed){i k}(h:Reach ops i k)(j:i∈Region.ready .any ops listed):listed.getD k false=true:=by
 obtain⟨_,o,f,b⟩:=mem_ready.1 j;cases h with
 | step h c e =>
   obtain rfl:=aI (f.symm.trans h);exact b _ c e
 | more h c e r =>
   obtain rfl:=aI (f.symm.trans h);exact r.listed g (b _ c e)
def Sc.list{ops listed}(r:Sc ops listed){i}(s:i∈Region.ready .any ops listed):Sc ops (listed.setIfInBounds i true):=by
 obtain⟨_,t,c,b⟩:=mem_ready.1 s;have up:∀k,listed.getD k false=true->(listed.setIfInBounds i true).getD k false=true:=by
  intro k g;by_cases e:i=k
  .subst e;rcases tL i listed.size with f|f
   .simp[f]
   .simp[TN f] at g
  .rw[getD_set_ne false e];exact g
 intro j o e h l m n;by_cases q:i=j
 .subst q;obtain rfl:=aI (c.symm.trans l);exact up _ (b e m n)
 .rw[getD_set_ne false q] at h;exact up _ (r j o e h l m n)
def UQ{b:Array Bool}{i}(f:b.getD i true=false)(c:b.getD i false=true):False:=by
 rcases tL i b.size with e|e
 .simp[e] at f c;rw[f] at c;cases c
 .simp[TN e] at c
def uv(e:Array Oper)(c:List Uf):Prop:=∀k,∀b,Nat.testBit (maskAt c k) b=true->Reach e k b
def ET{ops done}(n:uv ops done){i o}(k:ops[i]?=aa o){b}(h:Nat.testBit (mask done o) b=true):Reach ops i b:=by
 have key:∀l,(∀e∈l,e∈o.after)->Nat.testBit (w8 done l) b=true->Reach ops i b:=by
  intro l;induction l with
  | nil=>intro _ h;simp[w8] at h
  | cons e r m =>
    intro f h;simp only[w8] at h;cases g:Region.binds .any e with
    | false=>rw[g] at h;exact m (λj c=>f j (v8 _ c)) h
    | true =>
      rw[g] at h;simp at h;rcases h with (h|h)|h
      .exact m (λj c=>f j (v8 _ c)) h
      .rw[Nat.testBit_two_pow] at h;have:e.on=b:=by simpa using h
       subst this;exact .step k (f e<|ri ..) g
      .exact .more k (f e<|ri ..) g (n _ _ h)
 exact key _ (λe q=>by simpa using q) h
def uv.nil{ops}:uv ops []:=λk b h=>by simp[maskAt] at h
def uv.cons{ops done}(e:uv ops done){i o f}(g:ops[i]?=aa o):uv ops ((i,o,f,mask done o)::done):=by
 intro k b h;simp only[maskAt] at h;cases c:Nat.beq i k with
 | true =>
   rw[c] at h;obtain rfl:=gx c;exact ET e g h
 | false=>rw[c] at h;exact e k b h
def ad2(c:Ctx)(e:Nat)(f:List Nat)(inl:Nat->List cp->St->Tree (cp×St))(b:Array Oper)(g:Nat->Fp)(Q:St->Prop):Nat->Array Bool->St->Prop
 | 0,listed,σ=>Region.ready .any b listed=[]/\Q σ
 | n+1,listed,σ=>(Region.ready .any b listed=[]->Q σ) /\
  ∀i∈Region.ready .any b listed,∃o aV,b[i]?=aa o/\o.guard=af/\(jk c e f inl (g i) o σ).run=aa aV/\ad2 c e f inl b g Q n (listed.setIfInBounds i true) aV
variable {ops:Array Oper} {fp:Nat->Fp} {Q:St->Prop}
def XE{i o}(E:ops[i]?=aa o)(u:o.guard=af)(v:∀b∈(fp i).wr,b∈(fp i).rd):∀n c σ bM,
  Sc ops c->(∀j s,ops[j]?=aa s->j≠i->c.getD j true=false->Reach ops j i\/apart o s (fp i) (fp j)=true) ->
  i∈Region.ready .any ops c->(jk cx nb bf inl (fp i) o σ).run=aa bM->ad2 cx nb bf inl ops fp Q n (c.setIfInBounds i true) bM->ad2 cx nb bf inl ops fp Q (n+1) c σ:=by
 intro n;induction n with
 | zero =>
   intro c σ bM f g q A H;refine⟨λh=>(by rw[h] at q;cases q),λj t=>?_⟩;by_cases e:j=i
   .subst e;exact⟨o,bM,E,u,A,H⟩
   .have:=ready_mono t e;rw[H.1] at this;cases this
 | succ n I =>
   intro c σ bM f g q A H;refine⟨λh=>(by rw[h] at q;cases q),λj t=>?_⟩;by_cases e:j=i
   .subst e;exact⟨o,bM,E,u,A,H⟩
   .obtain⟨s,cH,x,C,J,K⟩:=H.2 j (ready_mono t e);obtain⟨l,L,F,G⟩:=mem_ready.1 t;have r:apart o s (fp i) (fp j)=true:=by
     rcases g j s x e l with M|r
     .exact(UQ (mem_ready.1 q).1<|M.ready f t).elim
     .exact r
    obtain⟨m,O,R⟩:=ad1 r v A J;refine⟨s,m,x,C,O,I _ m cH (f.list t) (λk S T D y=>g k S T D ?_) (ready_mono q<|IX e) R ?_⟩
    .by_cases z:j=k
     .subst z;exact l
     .rw[getD_set_ne true z] at y;exact y
    .rw[ahW _ _ e];exact K
end
end Go.Ge
namespace Go.Ge
open RowKit
section
variable {P:Program} {B:B5} {N:Nat} {γ:Gh} {cx:Ctx} {nb:Nat} {bf:List Nat} {inl:Nat->List cp->St->Tree (cp×St)} {σ aV τ:St} {ops:Array Oper} {fp:Nat->Fp}
def agG(f:Ctx)(g:Nat)(h:List Nat)(inl:Nat->List cp->St->Tree (cp×St))(c:Array Oper)(b:Nat->Fp):Nat->List Oper->St->St->Prop
 | _,[],σ,aV=>σ=aV
 | k,o::l,σ,aV=>o.guard=af/\((b k).KF=false->UN f g o (b k))/\((b k).KF=true->(b k).wr=[])/\(∀e∈o.after,Region.binds .any e=true->e.on<k) /\
  (∀j i,l[j]?=aa i->Reach c (k+1+j) k\/apart o i (b k) (b<|k+1+j)=true) /\
  ∃bM,(jk f g h inl (b k) o σ).run=aa bM/\agG f g h inl c b (k+1) l bM aV
def Mh{o f b k m mk ok r}(h:loose o f m ((k,ok,b,mk)::r)=true):(Nat.testBit m k=true\/apart ok o b f=true)/\loose o f m r=true:=by
 simp only[loose,gw,Ll] at h;exact h
def ad3 o σ (h:(B2 cx nb o σ).KF=true):(B2 cx nb o σ).wr=[]:=by
 unfold B2 at h⊢;dsimp only at h⊢;split at h<;>first|cases h|skip
 rfl
def Sd:∀l k c σ,(∀j o,l[j]?=aa o->ops[k+j]?=aa o)->uv ops c->(Lv cx nb bf inl (number k l) c σ).run=aa aV ->
  ∃n:List (Fp×Nat),n.length=l.length/\(∀j m b,n[j]?=aa m->Nat.testBit m.2 b=true->Reach ops (k+j) b) /\
   ∀fp,(∀j f,n[j]?=aa f->fp (k+j)=f.1)->agG cx nb bf inl ops fp k l σ aV/\∀j o f,l[j]?=aa o->n[j]?=aa f->loose o (fp<|k+j) f.2 c=true:=by
 intro l;induction l with
 | nil =>
   intro k c σ _ _ h;exact⟨[],rfl,λj m b h=>absurd h aT,λfp _=>⟨aI h,λj o f g=>absurd g aT⟩⟩
 | cons o l E =>
   intro k c σ x y h;simp only[number,Lv] at h;split at h
   .cases h
   .rename_i F;obtain⟨u,G⟩:=ay h;obtain⟨bM,H,I⟩:=bind_some G;simp only[gw] at u;have z:=x 0 o rfl;obtain⟨n,A,C,J⟩:=E _ _ bM (λj v g=>by have:=x (j+1) v (by simpa using g);rw[<-this];congr 1;omega) (y.cons z) I;refine⟨(B2 cx nb o σ,mask c o)::n,by simp[A],λj m b g i=>?_,λfp r=>?_⟩
    .cases j with
     | zero=>obtain rfl:=aI g;exact ET y z i
     | succ j=>have:=C j m b (by simpa using g) i;rw[show k+_=k+1+j by omega];exact this
    have s:fp k=B2 cx nb o σ:=r 0 _ rfl;obtain⟨K,D⟩:=J fp λj f g=>by have:=r (j+1) f (by simpa using g);rw[<-this];congr 1;omega
    refine⟨⟨F,λi=>by rw[s] at i⊢;exact KM o σ i,λi=>by rw[s] at i⊢;exact ad3 o σ i,λe L i=>?_,λj M g=>?_,bM,by rw[s];exact H,K⟩,λj v f g t=>?_⟩
    .have:=u.2;rw[<-Array.all_toList,wa] at this;have:=this e (by simpa using L);rw[i] at this;have:=JL (by simpa [Nat.blt] using this);omega
    .obtain⟨f,t⟩:∃f,n[j]?=aa f:=⟨_,fH (by rw[A];exact(iy.1 g).1)⟩;rcases(Mh<|D j M f g t).1 with q|q
     .exact .inl (C j f k t q)
     .rw[s];exact .inr q
    .cases j with
     | zero =>
       obtain rfl:=aI g;obtain rfl:=aI t;rw[FC,s];exact u.1
     | succ j =>
       have:=(Mh<|D j v f (by simpa using g)<|by simpa using t).2;rw[show k+_=k+1+j by omega];exact this
def ad4:∀l k c σ,(∀j,l[j]?=ops[k+j]?)->c.size=ops.size->(∀j,j<k->j<ops.size->c.getD j false=true) ->
  (∀j,k<=j->j<ops.size->c.getD j true=false)->Sc ops c->agG cx nb bf inl ops fp k l σ aV->ad2 cx nb bf inl ops fp (·=aV) l.length c σ:=by
 intro l;induction l with
 | nil =>
   intro k c σ x y z E f h;refine⟨?_,h⟩;cases J:Region.ready .any ops c with
   | nil=>rfl
   | cons i r =>
     obtain⟨F,o,I,_⟩:=mem_ready.1 (by rw[J];exact ri ..);have n:=(xe.1 I).1;rcases tL i k with v|v
     .have:=z i v n;simp[y,n] at this F;rw[this] at F;cases F
     .have:=x (i-k);rw[show k+_=i by omega,I] at this;cases this
 | cons o l K =>
   intro k c σ x y z E f h;have v:ops[k]?=aa o:=by simpa using(x 0).symm
   have n:=(xe.1 v).1;obtain⟨L,M,G,O,R,bM,S,T⟩:=h;have g:=mem_ready.2 ⟨E k (bV _) n,o,v,λe U A=>by
    have:=O e U A;exact z e.on this ah⟩
   refine XE v L (λb A=>?_) l.length c σ bM f (λj V D W t=>?_) g S (K _ _ bM (λj=>?_) (by simp[y]) (λj D u=>?_) (λj D u=>?_) (f.list g) T)
   .cases q:(fp k).KF with
    | true=>rw[G q] at A;cases A
    | false=>exact(M q).sub b A
   .have s:=(xe.1 D).1;rcases tL j k with C|C
    .exfalso;have:=z j C s;simp[y,s] at this t;rw[this] at t;cases t
    .have H:=x (j-k);rw[show k+_=j by omega,D] at H;obtain⟨m,X⟩:∃m,j-k=m+1:=⟨j-k-1,ah⟩;rw[X] at H;have:=R m V (by simpa using H);rw[show k+1+m=j by omega] at this;exact this
   .have:=x (j+1);rw[show k+1+j=k+(j+1) by omega,<-this];simp
   .by_cases e:j=k
    .subst e;simp[y,n]
    .rw[getD_set_ne false<|IX e];exact z j ah u
   .rw[getD_set_ne true (by omega:k≠j)];exact E j ah u
def Mi:∀{l k j o},l[j]?=aa o->(k+j,o)∈number k l:=by
 intro l;induction l with
 | nil=>intro k j o h;cases h
 | cons p l b =>
   intro k j o h;cases j with
   | zero=>obtain rfl:=aI h;exact ri ..
   | succ j=>exact v8 _ (by rw[show k+(j+1)=k+1+j by omega];exact b (by simpa using h))
def Mj{d}:∀{items},oQ d items=false->∀{i o},(i,o)∈items->o.dst≠aa d:=λh _ _ b=>Xq h _ _ b
def O0(z:fN P cx)(f:pS P B.G cx)(g:yx P B.G inl){Q}(r:∀i o,ops[i]?=aa o->(fp i).KF=false->UN cx nb o (fp i))
  (A:∀o∈ops.toList,∀k,o.dst=aa k->k<N):∀n b σ γ a w,ad2 cx nb bf inl ops fp (·=aV) n b σ->dy B N γ σ a w ->
   (∀bE s w',dy B N bE aV s w'->Ext B γ σ.mem w bE aV.mem w'->Fr (number 0 ops.toList) a s->Q .normal s w')->wpAny P .any ops Q n b a w:=by
 intro n;induction n with
 | zero =>
   intro b σ γ a w h m q;obtain⟨e,rfl⟩:=h;exact⟨e,q γ a w m (Ext.refl _ _ _ _) λt _=>rfl⟩
 | succ n C =>
   intro b σ γ a w h m q;refine⟨λD=>?_,λi E=>?_⟩
   .obtain rfl:=h.1 D;exact q γ a w m (Ext.refl _ _ _ _) λt _=>rfl
   .obtain⟨o,bM,e,F,H,I⟩:=h.2 i E;have j:o∈ops.toList:=by
     have:=ac1 e;simpa using this
    have c:(i,o)∈number 0 ops.toList:=by
     have:=Mi (l:=ops.toList) (k:=0) (by simpa using e);simpa using this
    unfold wpOp;rw[e];dsimp only;have J:Region.wanted o (yielded ops a.tmps)=true:=by unfold Region.wanted;rw[F]
    rw[J];refine .inl (L3 z f g m (A o j) (Dd (r i o e) H) λu v K L M=>?_);refine C _ bM u _ K I L λx O R S T U=>q x O R S (M.trans T) λt y=>?_;rw[U t y,gg (Mj y c)]
def dy.draw{a w}(h:dy B N γ σ a w) n:dy B N γ σ a { w with drawn:=n }/\Ext B γ σ.mem w γ σ.mem { w with drawn:=n }:=by
 obtain⟨m1,c⟩:=h.ok.far (w':={ w with drawn:=n }) (I':=γ.I) ⟨rfl,rfl,rfl,bV _,λ_ _=>rfl⟩ (λ_ _ k=>k) (λb o k=>h.ok.vg b o k) (λb o k e=>absurd k e);exact⟨h.go c m1,c⟩
def Se(c:P.follows .mixedOrders=true)(u:fN P cx)(g:pS P B.G cx)(m:yx P B.G inl){Q id a w}
  (v:∀o∈ops.toList,∀k,o.dst=aa k->k<N) (y:(Lv cx nb bf inl (number 0 ops.toList) [] σ).run=aa aV) (h:dy B N γ σ a w)
  (z:∀bE n w',dy B N bE aV n w'->Ext B γ σ.mem w bE aV.mem w'->Fr (number 0 ops.toList) a n->Q .normal n w'):(Code.region id ops true).wp P Q a w:=by
 refine wp_region_any c ?_;obtain⟨A,O,R,C⟩:=Sd ops.toList 0 [] σ (λj o b=>by simpa using b) uv.nil y
 let fp:Nat->Fp:=λi=>(A[i]?.map (·.1)).getD ⟨[],[],true,af⟩
 obtain⟨r,_⟩:=C fp λj f b=>by simp[fp,b]
 have key:∀l k σ,agG cx nb bf inl ops fp k l σ aV->∀j o,l[j]?=aa o->(fp<|k+j).KF=false->UN cx nb o (fp<|k+j):=by
  intro l;induction l with
  | nil=>intro k σ _ j o b;cases b
  | cons o l D =>
    intro k σ E j F b;obtain⟨S,H,I,T,U,bM,V,J⟩:=E;cases j with
    | zero=>obtain rfl:=aI b;exact H
    | succ j=>rw[show k+_=k+1+j by omega];exact D _ bM J j F (by simpa using b)
 have K:=ad4 (aV:=aV) ops.toList 0 (Array.replicate ops.size false) σ aT aT (λj b=>ah)
  (λj _ b=>by simp[b]) (λi o e q=>by
   rcases tL i ops.size with t|t<;>simp[t] at q) r
 obtain⟨L,M⟩:=h.draw _;refine O0 u g m (λi o q=>by have:=key _ 0 σ r i o (by simpa using q);simpa using this) v _ _ σ γ a _ (by simpa using K) L λbE n w' s x f=>z bE n w' s (M.trans x) f
end
end Go.Ge
