import Derived.Test.YtgklgliokhbcnaaGreatDoorGeE
import Derived.Tactics
set_option linter.unusedVariables false
set_option linter.unusedSimpArgs false
set_option linter.unusedSectionVars false
set_option linter.defProp false
open Option renaming some->aa,none->af
namespace Go.Ge
open RowKit
def nT.shrink{mem mem'}(i:∀b c,mem b=aa c->mem' b=aa { c with lk:=true }){b aM j K}(k:nT mem b aM j)(h:nT mem' b aM K)
  (l:∀c,K { c with lk:=true }->K c):nT mem b aM K:=by
 obtain⟨c,f,m,_⟩:=k;obtain⟨n,g,q,o⟩:=h;rw[i b c f] at g;obtain rfl:=aF g;exact⟨c,f,m,λe=>l c (o e)⟩
def cu.shrink{γ bz mem mem' w w'}(g:∀b G,mem b=aa G->mem' b=aa { G with lk:=true }):∀{v m us vs},
  cu γ mem w v m us->cu bz mem' w' v m vs->cu bz mem w' v m vs:=by
 intro v;induction v with
 | undef=>intro m us vs _ r;cases m<;>exact r
 | data t x=>intro m us vs _ r;cases m<;>exact r
 | pN=>intro m us vs _ r;cases m<;>exact r
 | uO=>intro m us vs _ r;cases m<;>exact r
 | cell t x=>intro m us vs _ r;cases m<;>exact r
 | nl=>intro m us vs _ r;cases m<;>exact r
 | uP=>intro m us vs _ r;cases m<;>exact r
 | ya b aM =>
   intro m us vs c r;cases m with
   | many=>exact r
   | cells=>exact⟨r.1,c.2.shrink g r.2 λ_ k=>k⟩
   | val=>exact⟨r.1,c.2.shrink g r.2 λ_ k=>k⟩
 | ptr b aM p =>
   intro m us vs c r;cases m with
   | many=>exact r
   | cells=>exact⟨r.1,c.2.shrink g r.2 λ_ k=>k⟩
   | val=>exact⟨r.1,c.2.shrink g r.2 λ_ k=>k⟩
 | whole b aM =>
   intro m us vs c r;cases m with
   | many=>exact r
   | cells=>exact⟨r.1,c.2.shrink g r.2 λ_ k=>k⟩
   | val=>exact⟨r.1,c.2.shrink g r.2 λ_ k=>k⟩
 | part b aM lo n =>
   intro m us vs c r;cases m with
   | many=>exact r
   | cells=>exact⟨r.1,c.2.shrink g r.2 λ_ k=>k⟩
   | val=>exact⟨r.1,c.2.shrink g r.2 λ_ k=>k⟩
 | win b aM q e k lo n =>
   intro m us vs c r;cases m with
   | many=>exact r
   | cells=>exact⟨r.1,c.2.shrink g r.2 λ_ k=>k⟩
   | val=>exact⟨r.1,c.2.shrink g r.2 λ_ k=>k⟩
 | fn f H =>
   intro m us vs c r;cases m with
   | many=>exact r
   | cells=>obtain⟨_,_,_,s⟩:=c;obtain⟨h,j,l,F⟩:=r;exact⟨h,j,l,λi b aM z=>(s i b aM z).shrink g (F i b aM z) λ_ k=>k⟩
   | val=>obtain⟨_,_,_,s⟩:=c;obtain⟨h,j,l,F⟩:=r;exact⟨h,j,l,λi b aM z=>(s i b aM z).shrink g (F i b aM z) λ_ k=>k⟩
 | mix a b o y =>
   intro m us vs c r;cases m with
   | cells=>obtain⟨_,_,_,A,C⟩:=c;obtain⟨D,E,c,j,l⟩:=r;exact⟨D,E,c,o A j,y C l⟩
   | val=>obtain⟨_,_,_,A,C⟩:=c;obtain⟨D,E,c,j,l⟩:=r;exact⟨D,E,c,o A j,y C l⟩
   | many=>obtain⟨_,_,_,A,C⟩:=c;obtain⟨D,E,c,j,l⟩:=r;exact⟨D,E,c,o A j,y C l⟩
 | BI u I =>
   intro m us vs c r;cases m with
   | val=>obtain⟨_,_,s⟩:=c;obtain⟨h,j,l⟩:=r;exact⟨h,j,I s l⟩
   | cells=>exact r
   | many=>exact r
def bC.unlock{B γ bz mem mem' w w'}(h:bC B γ mem w)(q:∀b e,mem b=aa e->mem' b=aa { e with lk:=true })
  (m:bC B bz mem' w') (r:Ext B γ (λi=>match mem i with|some b=>aa { b with lk:=true }|none=>af) w bz mem' w'):bC B bz mem w'/\Ext B γ mem w bz mem w':=by
 have s:∀b e,mem b=aa e->bz.loc b=γ.loc b:=by
  intro b e f;obtain⟨v,k1,k2,k3⟩:=r.boxes b { e with lk:=true } (by simp[f]);rw[q b e f] at k1;obtain rfl:=aF k1;exact(k3 rfl).1
 have n:∀b,mem b≠af->mem' b≠none:=by
  intro b f;cases u:mem b with
  | none=>exact absurd u f
  | some e=>rw[q b e u];simp
 refine⟨?_,⟨r.below,r.I,r.qV,r.cells,λb e f=>⟨e,f,bX _,λ_=>⟨s b e f,rfl,rfl⟩⟩⟩⟩;exact
  { tf:=m.tf
    base:=m.base
    boxes:=λb e f=>by
     have j:=h.boxes b e f;have o:=m.boxes b _ (q b e f);unfold ew at j o⊢;cases l:e.buf with
     | true=>rw[l] at o;exact o
     | false =>
       rw[l] at j o;obtain⟨_,_,_,_,_,_,_,_,_,x⟩:=j;obtain⟨g,cap,cur,tid,fr,k1,k2,k3,adM,y⟩:=o;exact⟨g,cap,cur,tid,fr,k1,k2,k3,adM,x.shrink q y⟩
    inj:=λb c g k z f A j o=>m.inj b c g k z (n b f) (n c A) j o
    fresh:=λb g k f j=>m.fresh b g k (n b f) j
    te:=m.te
    sep:=λb e g k t f j C=>by
     have:=m.sep b _ g k t (q b e f) j C;exact this }
def Ext.gE{B γ}{c:St}{w}:Ext B γ c.mem w γ c.gE.mem w where
 below:=vD.refl _ _
 I:=λ_ _ h=>h
 qV:=λ_ _ h=>.inl h
 cells:=λ_ _ _=>rfl
 boxes:=λb e f=>⟨{ e with lk:=true },by simp[St.gE,f],bX _,λ_=>⟨rfl,rfl,rfl⟩⟩
def bC.gE{B γ}{j:St}{w}(h:bC B γ j.mem w):bC B γ j.gE.mem w:=by
 have inv:∀{b l},j.gE.mem b=aa l->∃e,j.mem b=aa e/\l={ e with lk:=true }:=by
  intro b l f;simp only[St.gE] at f;split at f
  .rename_i e h0;exact⟨e,h0,(aF f).symm⟩
  .cases f
 have i:∀{b},j.gE.mem b≠af->j.mem b≠none:=by
  intro b f o;apply f;simp[St.gE,o]
 exact
  { tf:=h.tf
    base:=h.base
    boxes:=λb l f=>by
     obtain⟨e,h0,rfl⟩:=inv f;have:=(h.boxes b e h0).keep (Ext.gE (B:=B)) rfl (λ_ _ _=>rfl);exact this
    inj:=λb c g k q f r m s=>h.inj b c g k q (i f) (i r) m s
    fresh:=λb g k f m=>h.fresh b g k (i f) m
    te:=h.te
    sep:=λb l g k n f m t=>by
     obtain⟨e,h0,rfl⟩:=inv f;exact h.sep b e g k n h0 m t }
def dm.gE{B N γ σ a w}(h:dm B N γ σ a w):dm B N γ σ.gE a w where
 bb:=λt=>(h.bb t).ext (Ext.gE (B:=B))
 size:=h.size
 defers:=h.defers
 ok:=h.ok.gE
def FW{e f:St}(h:bW e.gE f):∀b c,e.mem b=aa c->f.mem b=aa { c with lk:=true }:=λb c g=>h b _ (by simp[St.gE,g]) rfl
end Go.Ge
namespace Go.Ge
open RowKit
inductive xf (all:Array Oper) (G:List (Nat×Bool)):List (Nat×Oper)->List Oper->Prop
 | nil:xf all G [] []
 | cons {i:Nat} {o o':Oper} {r:List (Nat×Oper)} {l:List Oper}:all[i]?=aa o->(o'=o\/∃g,o.guard=aa g/\g∈G/\o'={ o with guard:=af })->xf all G r l->xf all G ((i,o')::r) (o::l)
def Uo{all G j want}:∀{items l inner},xf all G items l ->
  ∃b e,l=b++e/\xf all ((j,want)::G) (under j want inner items).1 b/\xf all G (under j want inner items).2 e:=by
 intro items l inner h;induction h generalizing inner with
 | nil=>exact⟨[],[],rfl,.nil,.nil⟩
 | @cons i o k r l n m C x =>
   unfold under;cases f:Ak k.guard j want with
   | true =>
     obtain⟨b,e,q,s,t⟩:=x (inner:=i::inner);refine⟨o::b,e,by rw[q];rfl,.cons n (.inr ?_) s,t⟩;have D:k=o:=by
      rcases m with m|⟨g,y,z,u⟩
      .exact m
      .rw[u] at f;cases f
     subst D;unfold Ak at f;split at f
     .rename_i E A v;simp only[gz] at f;have F:=gA f.1;have H:A=want:=by simpa using f.2
      subst F;subst H;exact⟨(E,A),v,qT ..,rfl⟩
     .cases f
   | false =>
     have both:∀c,∃b e,o::l=b++e /\
       xf all ((j,want)::G) (bif c then((i,k)::(under j want (i::inner) r).1,(under j want (i::inner) r).2) else([],(i,k)::r)).1 b /\
       xf all G (bif c then((i,k)::(under j want (i::inner) r).1,(under j want (i::inner) r).2) else([],(i,k)::r)).2 e:=by
      intro c;cases c with
      | true =>
        obtain⟨b,e,q,s,t⟩:=x;exact⟨o::b,e,by rw[q];rfl,.cons n (m.imp id λ⟨g,y,z,u⟩=>⟨g,y,vK _ z,u⟩) s,t⟩
      | false=>exact⟨[],o::l,rfl,.nil,.cons n m C⟩
     apply both
def Xh{d}:∀{items},oF d items=false->∀i o,(i,o)∈items->o.dst≠aa d:=by
 intro items;induction items with
 | nil=>intro _ i o h;cases h
 | cons p r c =>
   intro h i o b;simp only[oF,Rc] at h;rcases fI.1 b with b|b
   .obtain⟨rfl,rfl⟩:=eh b;intro e;rw[e] at h;simp at h
   .exact c h.2 i o b
section
variable {P:Program} {B:BT} {N:Nat} {γ:Gh} {σ aQ:St} {a:Act} {w w':World} {cx:Ctx} {nb:Nat} {bf:List Nat} {inl:Nat->List ch->St->Tree (ch×St)} {all:Array Oper}
def Up(c:Array Oper)(G:List (Nat×Bool))(a:Act)(b:List (Nat×Oper)):Prop :=
 ∀g∈G,∃e,(c[g.1]?).bind (·.dst)=aa e/\a.tmps[e]?=aa (.bool g.2)/\oF e b=false
def Up.wanted{G items}(h:Up all G a items){o g}(b:o.guard=aa g)(c:g∈G):Region.wanted o (yielded all a.tmps)=true:=by
 obtain⟨i,e,f,_⟩:=h g c;unfold Region.wanted;rw[b];simp only[yielded,e,PJ,f];simp
def Fr(b:List (Nat×Oper))(a c:Act):Prop:=∀t,oF t b=false->c.tmps[t]?=a.tmps[t]?
def gk{a:Act}{d:Option Nat}{v t}(h:d≠aa t):(a.put d v).tmps[t]?=a.tmps[t]?:=by
 cases d with
 | none=>rfl
 | some k =>
   have:k≠t:=λe=>h (by rw[e]);simp[Act.put,Array.getElem?_setIfInBounds_ne this]
def zv{d i o r}(h:oF d ((i,o)::r)=false):o.dst≠aa d/\oF d r=false:=by
 simp only[oF,Rc] at h;refine⟨λe=>?_,h.2⟩;rw[e] at h;simp at h
def Uq t:∀b,(σ.undef b).bb t=bif oF t b then .undef else σ.bb t:=by
 intro b;induction b with
 | nil=>rfl
 | cons p r c =>
   obtain⟨i,o⟩:=p;simp only[St.undef,oF];cases hd:o.dst with
   | none=>exact c
   | some k =>
     simp only[St.bt,St.put];cases f:Nat.beq k t with
     | true=>obtain rfl:=gA f;simp
     | false =>
       have:Nat.beq t k=false:=iJ (λe=>by subst e;simp at f);rw[this];exact c
def rq:∀b,(σ.undef b).mem=σ.mem:=by
 intro b;induction b with
 | nil=>rfl
 | cons p r c =>
   obtain⟨i,o⟩:=p;simp only[St.undef];cases o.dst<;>exact c
def dm.undef(h:dm B N γ σ a w){items b}(c:Fr items a b)(f:b.tmps.size=N)(g:b.defers=[]):dm B N γ (σ.undef items) b w where
 bb:=λt=>by
  rw[Uq,rq];cases i:oF t items with
  | true=>exact⟨_,rfl⟩
  | false =>
    have:=c t i;have e:b.tmps.getD t Go.undef=a.tmps.getD t Go.undef:=by simp only[Tt,this]
    rw[e];exact h.bb t
 size:=f
 defers:=g
 ok:=by rw[rq];exact h.ok
def FX{d:Option Nat}{k}(h:yielded all a.tmps k=af):yielded all (a.put d Go.undef).tmps k=none:=by
 unfold yielded at h⊢;cases c:(all[k]?).bind _ with
 | none=>rfl
 | some b =>
   rw[c] at h;simp at h⊢;by_cases e:d=aa b
   .subst e;simp only[Act.put];rw[ahX];simp;by_cases hs:b<a.tmps.size
    .rw[aN hs];rfl
    .rw[aJ hs]
   .rw[gk e];exact h
def FY{i o}(h:all[i]?=aa o):yielded all (a.put o.dst Go.undef).tmps i=none:=by
 unfold yielded;rw[h];simp;cases hd:o.dst with
 | none=>rfl
 | some d =>
   simp only[PJ,Act.put];rw[ahX];simp;by_cases hs:d<a.tmps.size
   .rw[aN hs];rfl
   .rw[aJ hs]
def Xi{G}{j E:Nat}{want c Q}(T:(all[j]?).bind (·.dst)=aa E)(F:c≠want) :
  ∀{items l inner a},xf all G items l->a.tmps[E]?=aa (.bool c)->oF E (under j want inner items).1=false->(∀k∈inner,yielded all a.tmps k=af) ->
   ∃u x,l=u++x/\u.length=(under j want inner items).1.length/\∀e,(∀q,Fr (under j want inner items).1 a q->q.tmps.size=a.tmps.size->q.defers=a.defers->wpList P all Q e q w) ->
    wpList P all Q (u++e) a w:=by
 intro items l inner a h;induction h generalizing inner a with
 | nil=>intro _ _ _;exact⟨[],[],rfl,rfl,λe s=>s a (λt _=>rfl) rfl rfl⟩
 | @cons i o n r l U v h3 V =>
   intro R S y;have one:∀H,H.dst=o.dst->Region.wanted o (yielded all a.tmps)=false->(under j want inner ((i,n)::r)).1=(i,H)::(under j want (i::inner) r).1 ->
     ∃u x,o::l=u++x/\u.length=(under j want inner ((i,n)::r)).1.length/\∀e,(∀q,Fr (under j want inner ((i,n)::r)).1 a q->q.tmps.size=a.tmps.size->q.defers=a.defers->wpList P all Q e q w) ->
     wpList P all Q (u++e) a w:=by
    intro H z W A;rw[A] at S⊢;obtain⟨C,I⟩:=zv S;rw[z] at C;obtain⟨u,x,X,Y,Z⟩:=V (a:=a.put o.dst Go.undef) (by rw[gk C];exact R) I (λk s=>by
     rcases fI.1 s with rfl|s
     .exact FY U
     .exact FX (y k s))
    refine⟨o::u,x,by rw[X];rfl,by simp[Y],λe s=>?_⟩;show wpList P all Q (o::_) a w
    unfold wpList;rw[W];refine Z e λq f1 f2 f3=>s q (λt ht=>?_) (f2.trans<|T7 _ _ _) (f3.trans<|put_defers _ _ _);obtain⟨D,J⟩:=zv ht;rw[z] at D;rw[f1 t J,gk D]
   cases m:Ak n.guard j want with
   | true =>
     have K:n=o:=by
      rcases v with v|⟨g,k1,k2,L⟩
      .exact v
      .rw[L] at m;cases m
     subst K;have f:n.guard=aa (j,want):=by
      unfold Ak at m;split at m
      .rename_i i' b' f;simp only[gz] at m;have h8:b'=want:=by simpa using m.2
       rw[f,(gA m.1),h8]
      .cases m
     refine one { n with guard:=af } rfl ?_ (by simp only[under,m,wP]);unfold Region.wanted;rw[f];simp only[yielded,T,PJ,R];cases c<;>cases want<;>first|rfl|exact absurd rfl F
   | false =>
     cases f:n.guard with
     | none =>
       have A:(under j want inner ((i,n)::r)).1=[]:=by
        rw[f] at m;simp only[under,f,m,BF]
       rw[A];exact⟨[],o::l,rfl,rfl,λe s=>s a (λt _=>rfl) rfl rfl⟩
     | some g =>
       obtain⟨k,b⟩:=g;rw[f] at m;cases hn:inner.any (Nat.beq k) with
       | true =>
         have K:n=o:=by
          rcases v with v|⟨g,k1,k2,L⟩
          .exact v
          .rw[L] at f;cases f
         subst K;refine one n rfl ?_ (by simp only[under,f,m,hn,BF,wP]);obtain⟨k',M,O⟩:=Tv.1 hn;obtain rfl:=gA O;unfold Region.wanted;rw[f];simp only[y k M];rfl
       | false =>
         have A:(under j want inner ((i,n)::r)).1=[]:=by simp only[under,f,m,hn,BF]
         rw[A];exact⟨[],o::l,rfl,rfl,λe s=>s a (λt _=>rfl) rfl rfl⟩
end
end Go.Ge
namespace Go.Ge
open RowKit
section
variable {P:Program} {B:BT} {N:Nat} {γ:Gh} {σ aQ:St} {a:Act} {w w':World} {cx:Ctx} {nb:Nat} {bf:List Nat} {inl:Nat->List ch->St->Tree (ch×St)} {all:Array Oper}
def L8 σ items:bW σ (σ.undef items):=bW.aiO (rq items)
def FZ(h:∀f i σ v aQ,(inl f i σ).run=aa (v,aQ)->bW σ aQ):∀n b σ,bd σ (rW cx nb bf inl all n b σ):=by
 intro n;induction n with
 | zero=>intro b σ;exact bd.fail
 | succ n k =>
   intro b σ;cases b with
   | nil=>exact bd.ret (bW.refl _)
   | cons p r =>
     unfold rW;split
     .exact bd.bind λbL l y g=>(B4 h bL l).trans (k _ _ y g)
     .rename_i j e C;dsimp only;split
      .exact bd.fail
      .rename_i u z;split
       .rename_i c D E t m o;cases F:oF u (under j e [] _).1 with
        | true=>exact bd.fail
        | false =>
          split
          .exact bd.fail
          .cases A:KC cx (under j e [] _).1 with
           | true =>
             intro y g;obtain⟨cI,l,q⟩:=bind_some g;refine bW.trans ?_ (k _ _ y q);refine(bd.node ?_ ?_) cI l
             .refine bd.bind λτ s=>?_;split
              .exact bd.ret ((k _ _ τ s).trans<|bW.bt _ _ _)
              .exact bd.fail
             .split
              .exact bd.ret ((L8 _ _).trans<|bW.bt _ _ _)
              .exact bd.fail
           | false =>
             simp;split
             .intro y g;rw[Tree.wQ] at g;obtain⟨x,l,q⟩:=BC.1 g;exact((L8 _ _).trans<|bW.put _ _ _).trans (k _ _ y q)
             .exact bd.fail
       .exact bd.fail
def RM{mem t v x val}(h:toD t v=aa x)(b:cu γ mem w v .val [val]){mem'}:cu γ mem' w (.data t x) .val [val]:=by
 unfold toD at h;split at h
 .obtain⟨q,c⟩:=Ty.lO h;subst q;subst c;exact b
 .split at h
  .obtain rfl:=aF h;obtain rfl:val=_:=by simpa [cu] using b
   exact⟨[.slice af 0 0],.inl ⟨⟨af,rfl⟩,rfl⟩,rfl⟩
  .cases h
 .cases h
def xf.length{G items l}(h:xf all G items l):items.length=l.length:=by
 induction h with
 | nil=>rfl
 | cons _ _ _ b=>simp[b]
def Xj{g i b v K Q}(h:dm B N γ σ a w)(l:a.tmps[i]?=aa (.bool b)){want}(m:b=want)
  (e:Al σ g i want=aa v) (n:∀y,cu γ σ.mem w v .val [y]->K (a.put g.dst y) w):g.wp P a w K Q:=by
 unfold Al at e;split at e
 .rename_i c x y j;cases k:Nat.beq c i with
  | false=>rw[k] at e;cases e
  | true =>
    obtain rfl:=gA k;rw[k] at e;obtain rfl:=aF e;subst m;have o:a.eval (.tmp c)=.bool b:=by simp[Act.eval,l]
    unfold Oper.wp;have f:(execOp a.eval g).run P w=.ok (.value<|a.eval<|bif b then x else y) w:=by
     simp only[execOp,j,o];cases b<;>rfl
    rw[f];exact n _ (h.cW _)
 .cases e
def Up.put{G i o r}(h:Up all G a ((i,o)::r)) v:Up all G (a.put o.dst v) r:=by
 intro g b;obtain⟨c,e,f,j⟩:=h g b;obtain⟨k,l⟩:=zv j;exact⟨c,e,by rw[gk k];exact f,l⟩
def Xk{d j want}:∀{items inner},oF d items=(oF d (under j want inner items).1||oF d (under j want inner items).2):=by
 intro items;induction items with
 | nil=>intro inner;rfl
 | cons p r b =>
   obtain⟨i,o⟩:=p;intro inner;unfold under;cases e:Ak o.guard j want with
   | true=>simp only[wP,oF,adi];rw[b (inner:=i::inner)]
   | false =>
     have both:∀c,oF d ((i,o)::r)=(oF d (bif c then((i,o)::(under j want (i::inner) r).1,(under j want (i::inner) r).2) else([],(i,o)::r)).1 ||
       oF d (bif c then((i,o)::(under j want (i::inner) r).1,(under j want (i::inner) r).2) else([],(i,o)::r)).2):=by
      intro c;cases c with
      | true=>simp only[wP,oF,adi];rw[b]
      | false=>simp[oF]
     apply both
def Xl{p:Option Nat->Prop}{j want}:∀{items inner},(∀i o,(i,o)∈items->p o.dst) ->
  (∀i o,(i,o)∈(under j want inner items).1->p o.dst)/\(∀i o,(i,o)∈(under j want inner items).2->p o.dst):=by
 intro items;induction items with
 | nil=>intro inner h;exact⟨h,h⟩
 | cons q r l =>
   obtain⟨e,f⟩:=q;intro inner h;have m:=h e f (qT ..);have n:=λi o b=>h i o (vK _ b);unfold under;cases s:Ak f.guard j want with
   | true =>
     obtain⟨g,k⟩:=l n;refine⟨λi o b=>?_,k⟩;rcases fI.1 b with b|b
     .obtain⟨_,rfl⟩:=eh b;exact m
     .exact g i o b
   | false =>
     have both:∀c,(∀i o,(i,o)∈(bif c then((e,f)::(under j want (e::inner) r).1,(under j want (e::inner) r).2) else([],(e,f)::r)).1->p o.dst) /\
       (∀i o,(i,o)∈(bif c then((e,f)::(under j want (e::inner) r).1,(under j want (e::inner) r).2) else([],(e,f)::r)).2->p o.dst):=by
      intro c;cases c with
      | true =>
        obtain⟨g,k⟩:=l n;refine⟨λi o b=>?_,k⟩;rcases fI.1 b with b|b
        .obtain⟨_,rfl⟩:=eh b;exact m
        .exact g i o b
      | false=>exact⟨λi o b=>(by cases b),h⟩
     apply both
def I7{t}{b:Bool}(h:dm B N γ σ a w)(f:σ.bb t=.data .bool b):a.tmps[t]?=aa (.bool b):=by
 have:=h.bb t;rw[f] at this;have e:=Ao this;rw[Tt] at e;cases c:a.tmps[t]? with
 | none=>rw[c] at e;cases e
 | some y=>rw[c] at e;exact congrArg aa e
def Ur{α c want}{t e:Tree α}{y}(h:(Tree.node (bif want then c else nt c) t e).run=aa y):(c=want/\t.run=aa y)\/(c≠want/\c=(!want)/\e.run=aa y):=by
 have:=gG h;cases c<;>cases want
 .exact .inl ⟨rfl,this⟩
 .exact .inr ⟨aS,rfl,this⟩
 .exact .inr ⟨aS,rfl,this⟩
 .exact .inl ⟨rfl,this⟩
def OG(hc:fi P cx)(aaL:nZ P B.G cx)(agF:xa P B.G inl)(akv:∀f aiP σ v aQ,(inl f aiP σ).run=aa (v,aQ)->bW σ aQ){Q} :
  ∀n {items l rest σ aQ γ a w G},xf all G items l->Up all G a items->(∀i o,(i,o)∈items->∀k,o.dst=aa k->k<N) ->
   (rW cx nb bf inl all n items σ).run=aa aQ->dm B N γ σ a w ->
   (∀bz a' w',dm B N bz aQ a' w'->Ext B γ σ.mem w bz aQ.mem w'->Fr items a a'->wpList P all Q rest a' w')->wpList P all Q (l++rest) a w:=by
 intro n;induction n with
 | zero=>intro items l rest σ aQ γ a w G _ _ _ s;cases s
 | succ n ih =>
   intro items l rest σ aQ γ a w G hit hG hd s h hK;cases hit with
   | nil =>
     obtain rfl:=aF s;exact hK γ a w h (Ext.refl _ _ _ _) (λt _=>rfl)
   | @cons i o o' r l h1 h2 h3 =>
     have M:o'.dst=o.dst:=by rcases h2 with rfl|⟨_,_,_,rfl⟩<;>rfl
     unfold rW at s;split at s
     .rename_i hg;obtain⟨bL,r1,r2⟩:=bind_some s;have hw:Region.wanted o (yielded all a.tmps)=true:=by
       rcases h2 with rfl|⟨g,k1,k2,k3⟩
       .unfold Region.wanted;rw[hg]
       .exact hG.wanted k1 k2
      have r1':(rV cx nb bf inl o σ).run=aa bL:=by
       rcases h2 with rfl|⟨g,k1,k2,rfl⟩
       .exact r1
       .exact r1
      show wpList P all Q (o::_) a w
      unfold wpList;rw[hw];refine .inl (LZ hc aaL agF h (λk W=>hd i o' (qT ..) k (by rw[M];exact W)) r1' λu v K O x1=>?_);have hG':=hG.put v;rw[M] at hG';refine ih h3 hG' (λi o hm=>hd i o (vK _ hm)) r2 O λR a2 w2 s2 x2 f2=>hK R a2 w2 s2 (x1.trans x2) λt ht=>?_;obtain⟨t1,X⟩:=zv ht;rw[f2 t X,gk (by rw[<-M];exact t1)]
     .rename_i j m hg;dsimp only at s;split at s
      .exact absurd s cg
      rename_i dj hdj;split at s
      case h_2=>exact absurd s cg
      rename_i c ip pk F akw Us;cases hh:oF dj (under j m [] _).1 with
      | true=>rw[hh] at s;exact absurd s cg
      | false =>
      rw[hh] at s;split at s
      .exact absurd s cg
      rename_i hpg;have S:=I7 h akw;obtain⟨l1,l2,e1,I1,I2⟩:=Uo (xf.cons h1 h2 h3);obtain⟨d1,d2⟩:=Xl (p:=λd=>∀k,d=aa k->k<N) hd;have T:∀d,oF d ((i,o')::r)=(oF d (under j m [] _).1||oF d (under j m [] _).2):=λd=>Xk;have akx:=λq=>Xi (P:=P) (w:=w) (Q:=Q) hdj q (xf.cons h1 h2 h3) S hh Bz;generalize hg1:(under j m [] _).1=Y at *;rw[Us] at I2 d2 T;cases I2 with
      | @cons _ z _ _ l2' p1 p2 p3 =>
      have H:pk.dst=z.dst:=by rcases p2 with rfl|⟨_,_,_,rfl⟩<;>rfl
      have al5:pk.op=z.op:=by rcases p2 with rfl|⟨_,_,_,rfl⟩<;>rfl
      rw[e1,vL];have C:∀{d},oF d ((i,o')::r)=false->oF d Y=false/\z.dst≠aa d/\oF d F=false:=by
       intro d Z;rw[T] at Z;simp at Z;obtain⟨q1,q2⟩:=zv Z.2;exact⟨Z.1,by rw[<-H];exact q1,q2⟩
      have tail:∀u τ cI A K v b,dm B N u τ A K->Fr Y a A->c=b->Al τ pk dj b=aa v ->
        (∀y,cu u τ.mem K v .val [y]->∃R,dm B N R cI (A.put z.dst y) K/\Ext B γ σ.mem w R cI.mem K)->(rW cx nb bf inl all n F cI).run=aa aQ ->
        wpList P all Q (z::l2'++rest) A K:=by
       intro u τ cI A K v b O E hcb D hy I;have hGp:Up all G A ((ip,pk)::F):=λg U=>by
        obtain⟨dj',k1,k2,k3⟩:=hG g U;obtain⟨q1,q2,q3⟩:=C k3;refine⟨dj',k1,by rw[E dj' q1];exact k2,?_⟩;simp only[oF,Rc];refine⟨?_,q3⟩;cases L:pk.dst with
        | none=>rfl
        | some k=>exact iJ λe=>q2 (by rw[<-H,L,e])
       have hwp:Region.wanted z (yielded all A.tmps)=true:=by
        rcases p2 with rfl|⟨g,k1,k2,k3⟩
        .unfold Region.wanted;rw[hpg]
        .exact hGp.wanted k1 k2
       show wpList P all Q (z::_) A K
       unfold wpList;rw[hwp];have al6:Al τ z dj b=aa v:=by rw[<-D];unfold Al;rw[al5]
       refine .inl (Xj O (by rw[E dj hh];exact S) hcb al6 λy hyr=>?_);obtain⟨R,s2,x2⟩:=hy y hyr;have hGr:=hGp.put y;rw[H] at hGr;refine ih p3 hGr (λi o hm=>d2 i o (vK _ hm)) I s2 λγ3 a3 w3 s3 x3 f3=>hK γ3 a3 w3 s3 (x2.trans x3) λt ht=>?_;obtain⟨q1,q2,q3⟩:=C ht;rw[f3 t q3,gk q2,E t q1]
      have V:∀(τ:St) d v,(τ.bt d v).mem=τ.mem:=λτ d v=>by cases d<;>rfl
      have L:=λk W=>d2 ip pk (qT ..) k (by rw[H];exact W);have hG1:c=m->Up all ((j,m)::G) a Y:=λq g U=>by
       rcases fI.1 U with rfl|U
       .exact⟨dj,hdj,by rw[<-q];exact S,hh⟩
       .obtain⟨dj',k1,k2,k3⟩:=hG g U;exact⟨dj',k1,k2,(C k3).1⟩
      have kz:c≠m->(∀A,Fr Y a A->A.tmps.size=a.tmps.size->A.defers=a.defers->wpList P all Q (z::l2'++rest) A w)->wpList P all Q (l1++(z::l2'++rest)) a w:=by
       intro q W;obtain⟨m1,m2,q1,q2,q3⟩:=akx q;rw[e1] at q1;obtain⟨rfl,rfl⟩:=List.append_inj q1 (by rw[q2,I1.length]);exact q3 _ W
      cases Uj:KC cx Y with
      | true =>
        rw[Uj] at s;obtain⟨cI,hn,I⟩:=bind_some s;rcases Ur hn with ⟨q,hn⟩|⟨q,hcn,hn⟩
        .obtain⟨τ,t1,X⟩:=bind_some hn;split at X
         .rename_i v D;obtain rfl:=aF X;refine ih I1 (hG1 q) d1 t1 h λu A K O x1 E=>tail u τ _ A K v m O E q D (λy hy=>⟨u,?_,?_⟩) I
          .rw[H];exact O.wW L hy
          .rw[V];exact x1
         .exact absurd X cg
        .split at hn
         .rename_i v D;obtain rfl:=aF hn;refine kz q λA E f2 f3=>tail γ (σ.undef Y) _ A w v (!m) (h.undef E (f2.trans h.size)<|f3.trans h.defers) E hcn D (λy hy=>⟨γ,?_,?_⟩) I
          .rw[H];exact(h.undef E (f2.trans h.size)<|f3.trans h.defers).wW L hy
          .rw[V,rq];apply Ext.refl
         .exact absurd hn cg
      | false =>
        rw[Uj] at s;simp at s;split at s
        case h_2=>exact absurd s cg
        rename_i t dp hT hdp;rw[Tree.wQ] at s;obtain⟨x,hn,I⟩:=BC.1 s;have J:z.dst=aa dp:=by rw[<-H];exact hdp
        rcases Ur hn with ⟨q,hn⟩|⟨q,hcn,hn⟩
        .obtain⟨τ,t1,X⟩:=bind_some hn;split at X
         .rename_i x' D;obtain rfl:=aF X;obtain⟨v,hv1,hv2⟩:=BC.1 D;refine ih I1 (hG1 q) d1 t1 h.gE λu A K O x1 E=>tail u τ _ A K v m O E q hv1 (λy hy=>?_) I;obtain⟨m1,m2⟩:=h.ok.unlock (FW<|FZ akv n Y _ τ t1) O.ok x1;refine⟨u,?_,?_⟩
          .rw[J];exact((h.go m2 m1).undef E O.size O.defers).wW (λk W=>L k (by rw[J];exact W)) (RM hv2 hy)
          .show Ext B γ σ.mem w u (σ.undef Y).mem K
           rw[rq];exact m2
         .exact absurd X cg
        .split at hn
         .rename_i x' D;obtain rfl:=aF hn;obtain⟨v,hv1,hv2⟩:=BC.1 D;refine kz q λA E f2 f3=>tail γ _ _ A w v _ (h.undef E (f2.trans h.size)<|f3.trans h.defers) E hcn hv1 (λy hy=>⟨γ,?_,?_⟩) I
          .rw[J];exact(h.undef E (f2.trans h.size)<|f3.trans h.defers).wW (λk W=>L k (by rw[J];exact W)) (RM hv2 hy)
          .show Ext B γ σ.mem w γ (σ.undef Y).mem w
           rw[rq];apply Ext.refl
         .exact absurd hn cg
end
end Go.Ge
namespace Go.Ge
open RowKit
section
variable {P:Program} {B:BT} {N:Nat} {γ:Gh} {σ aQ:St} {a:Act} {w w':World} {cx:Ctx} {nb:Nat} {bf:List Nat} {inl:Nat->List ch->St->Tree (ch×St)} {ops:Array Oper}
def RN:∀{l:List Oper} {k:Nat},(∀j,l[j]?=ops[k+j]?)->xf ops [] (number k l) l:=by
 intro l;induction l with
 | nil=>intro k _;exact .nil
 | cons o l b =>
   intro k h;refine .cons ?_ (.inl rfl) (b λj=>by have:=h (j+1);simpa [En,Zb 1 j] using this);have:=h 0;simpa using this.symm
def Xm:∀{l:List Oper} {k i:Nat} {o:Oper},(i,o)∈number k l->o∈l:=by
 intro l;induction l with
 | nil=>intro k i o h;cases h
 | cons p l b =>
   intro k i o h;rcases fI.1 h with h|h
   .obtain⟨_,rfl⟩:=eh h;exact qT ..
   .exact vK _ (b h)
def RO(n:fi P cx)(c:nZ P B.G cx)(e:xa P B.G inl)(b:∀f g σ v aQ,(inl f g σ).run=aa (v,aQ)->bW σ aQ){Q:Exit->Act->World->Prop}{id:Nat}
  (q:∀o∈ops.toList,∀k,o.dst=aa k->k<N) (r:(Lr cx nb bf inl ops σ).run=aa aQ) (h:dm B N γ σ a w)
  (t:∀bz m w',dm B N bz aQ m w'->Ext B γ σ.mem w bz aQ.mem w'->Fr (number 0 ops.toList) a m->Q .normal m w'):(Code.region id ops false).wp P Q a w:=by
 refine wp_region_list ?_;have:=OG (all:=ops) (Q:=Q) (rest:=[]) n c e b _ (RN (l:=ops.toList) (k:=0) λj=>aS) Bz (λi o u=>q o (Xm u)) r h
  (λbz m w' s x f=>wpList_nil (t bz m w' s x f))
 simpa using this
end
end Go.Ge
namespace Go.Ge
open RowKit
def vS(p:Nat->Prop)(e c:St):Prop:=∀b,c.mem b=e.mem b\/(c.mem b≠af/\p b)
section
variable {p:Nat->Prop} {σ τ ρ:St}
def vS.refl σ:vS p σ σ:=λ_=>.inl rfl
def vS.trans(h:vS p σ τ)(k:vS p τ ρ):vS p σ ρ:=λb=>by
 rcases k b with c|c
 .rcases h b with e|⟨e,f⟩
  .exact .inl (c.trans e)
  .exact .inr ⟨by rw[c];exact e,f⟩
 .exact .inr c
def vS.bt σ d v:vS p σ (σ.bt d v):=by cases d<;>exact λ_=>.inl rfl
def vS.put σ d v:vS p σ (σ.put d v):=λ_=>.inl rfl
def vS.cr{b bx}(h:p b):vS p σ (σ.cr b bx):=λc=>by
 by_cases e:c=b
 .subst e;exact .inr ⟨by simp[St.cr],h⟩
 .exact .inl (by rw[wY,aZ _ e])
end
def cf(p:Nat->Prop)(b:St)(T:Tree St):Prop:=∀y,T.run=aa y->vS p b y
section
variable {p:Nat->Prop} {σ:St}
def cf.fail:cf p σ .fail:=λy h=>by cases h
def cf.ret{aQ}(h:vS p σ aQ):cf p σ (.ret aQ):=λy b=>by obtain rfl:=aF b;exact h
def cf.bif{c t}(h:cf p σ t):cf p σ (bif c then t else .fail):=λy b=>h y (ay b).2
def cf.jw{c t}(h:cf p σ t):cf p σ (.jw c t):=λy b=>h y (cQ b).2
def cf.look{T}{o:Option T}{k}(h:∀x,cf p σ (k x)):cf p σ (.look o k):=λy b=>by obtain⟨x,_,c⟩:=cd b;exact h x y c
def cf.node{c t e}(h:cf p σ t)(k:cf p σ e):cf p σ (.node c t e):=λy b=>by
 have:=gG b;cases c with
 | true=>exact h y this
 | false=>exact k y this
def cf.bind{α}{t:Tree α}{f}(h:∀x,t.run=aa x->cf p σ (f x)):cf p σ (t.bind f):=λy b=>by obtain⟨x,c,e⟩:=bind_some b;exact h x c y e
def cf.bu{b val tid buf d}{v:Nat->ch}(h:p b):cf p σ (σ.bu b val tid buf λc σ=>.ret (σ.put d<|v c)):=λy e=>by
 obtain⟨c,g,f⟩:=n6 e;obtain rfl:=aF f;exact(vS.cr h).trans (vS.put _ _ _)
def L9{σ aQ b}(g:∀b,σ.mem b≠af->p b)(h:freeze σ b=aa aQ):vS p σ aQ:=by
 unfold freeze at h;split at h
 .rename_i f i;cases c:f.ro with
  | true=>simp only[c,wP,Lf] at h;rw[<-h];apply vS.refl
  | false =>
    cases e:f.lk with
    | true=>simp[c,e] at h
    | false =>
      simp only[c,e,BF,Lf] at h;rw[<-h];exact vS.cr (g b<|by rw[i];simp)
 .cases h
def HB(p:Nat->Prop)(e c:St):Prop:=(∀b,e.mem b≠af->p b)->vS p e c/\∀b,c.mem b≠af->p b
def HB.refl σ:HB p σ σ:=λh=>⟨vS.refl _,h⟩
def HB.trans{σ τ ρ}(h:HB p σ τ)(k:HB p τ ρ):HB p σ ρ:=λb=>by
 obtain⟨c,e⟩:=h b;obtain⟨f,g⟩:=k e;exact⟨c.trans f,g⟩
def HB.of{σ aQ}(h:(∀b,σ.mem b≠af->p b)->vS p σ aQ):HB p σ aQ:=λc=>by
 refine⟨h c,λb e=>?_⟩;rcases h c b with k|k
 .exact c b (by rw[<-k];exact e)
 .exact k.2
def Ut:∀{v σ aQ},jj σ v=aa aQ->HB p σ aQ:=by
 intro v;induction v with
 | mix p q c e =>
   intro σ aQ h;obtain⟨bL,g,i⟩:=yf h;exact(c g).trans (e i)
 | whole b aM=>intro σ aQ h;exact HB.of λf=>L9 f h
 | part b aM lo n=>intro σ aQ h;exact HB.of λf=>L9 f h
 | _=>intro σ aQ h;obtain rfl:=aF h;apply HB.refl
def zw{t x v σ aQ}(h:BN σ t v=aa (x,aQ)):HB p σ aQ:=by
 unfold BN at h;split at h
 .split at h
  .obtain⟨_,rfl⟩:=eh (aF h);apply HB.refl
  .cases h
 .split at h
  .rename_i y bL c b;obtain⟨_,rfl⟩:=eh (aF h);exact Ut b
  .cases h
def B5:∀{A x vs σ aQ},gD σ A vs=aa (x,aQ)->HB p σ aQ:=by
 intro A;induction A with
 | pair t r e c =>
   intro x vs σ aQ b;cases vs with
   | nil=>cases b
   | cons v vs =>
     simp only[gD] at b;split at b
     .rename_i p bL f;split at b
      .rename_i q cI g;obtain⟨_,rfl⟩:=eh (aF b);exact(zw f).trans (c g)
      .cases b
     .cases b
 | unit =>
   intro x vs σ aQ b;cases vs with
   | nil=>obtain⟨_,rfl⟩:=eh (aF b);apply HB.refl
   | cons v vs=>cases b
 | _=>intro x vs σ aQ b;cases vs<;>cases b
def Ma{t}:∀{parts x b σ aQ},iH σ t x parts=aa (b,aQ)->HB p σ aQ:=by
 intro parts;induction parts with
 | nil=>intro x b σ aQ h;obtain⟨_,rfl⟩:=eh (aF h);apply HB.refl
 | cons p r c =>
   intro x b σ aQ h;simp only[iH] at h;split at h
   .split at h
    .rename_i e;split at h
     .exact(zw e).trans (c h)
     .cases h
    .cases h
   .cases h
def RP{bf t parts v σ aQ}(h:pP bf σ t parts=aa (v,aQ)):HB p σ aQ:=by
 unfold pP at h;cases b:cU bf 8600000&&parts.any (λp=>rU (cW σ p.2)) with
 | true=>rw[b] at h;simp only[wP] at h;split at h<;>cases h;exact HB.refl _
 | false=>rw[b] at h;simp only[BF] at h;split at h<;>cases h;exact Ma (by assumption)
def yS{e}:∀{parts l c σ aQ},fG σ e l parts=aa (c,aQ)->HB p σ aQ:=by
 intro parts;induction parts with
 | nil=>intro x i σ aQ h;obtain⟨_,rfl⟩:=eh (aF h);apply HB.refl
 | cons p r f =>
   obtain⟨k,o⟩:=p;intro l c σ aQ h;simp only[fG] at h;split at h
   .rename_i g;cases b:Nat.blt k l.length with
    | false=>rw[b] at h;cases h
    | true=>rw[b] at h;exact(zw g).trans (f h)
   .cases h
def I8{b aM k fit u σ aQ}(e:(storeAt b aM k fit u σ).run=aa aQ):HB p σ aQ:=HB.of λl=>by
 unfold storeAt at e;split at e
 case h_2=>exact absurd e cg
 rename_i o m;obtain⟨q,f⟩:=ay e;obtain⟨n,hn,g⟩:=bind_some f;obtain⟨j,h⟩:=ay g;obtain⟨c,hs,i⟩:=bind_some h;obtain rfl:=aF i;exact vS.cr (l b<|by rw[m];simp)
def Uu{b aM l n u σ aQ}(e:(tY b aM l n u σ).run=aa aQ):HB p σ aQ:=HB.of λm=>by
 unfold tY at e;split at e
 case h_2=>exact absurd e cg
 rename_i s o;obtain⟨t,f⟩:=ay e;obtain⟨q,hn,g⟩:=bind_some f;obtain⟨k,h⟩:=ay g;obtain⟨c,hs,i⟩:=bind_some h;obtain⟨r,j⟩:=ay i;obtain rfl:=aF j;exact vS.cr (m b<|by rw[o];simp)
def OH{cx bf ty x y σ aQ}(e:(mP cx bf ty x y σ).run=aa aQ):HB p σ aQ:=by
 unfold mP at e;split at e
 case h_2=>exact absurd e cg
 split at e
 case h_2=>exact absurd e cg
 obtain⟨g,f⟩:=ay e;obtain⟨i,hn,c⟩:=bind_some f;split at c
 .rename_i u _;obtain⟨j,b⟩:=ay c;cases h:cU bf 8000000&&adt u y with
  | true=>rw[h] at b;exact Uu b
  | false =>
  rw[h] at b;split at b
  .rename_i k;exact(zw k).trans (I8 b)
  .exact absurd b cg
 .obtain⟨j,b⟩:=ay c;exact I8 b
def B6{cx nb d ty s x σ aQ}(g:∀k,d=aa k->p (nb+k))(h:∀b,σ.mem b≠af->p b)(c:(iI cx nb d ty s x σ).run=aa aQ):vS p σ aQ:=by
 unfold iI at c;split at c
 case h_2=>exact absurd c cg
 split at c
 case h_2=>exact absurd c cg
 split at c
 .obtain⟨i,e⟩:=cQ c;exact cf.bu (g _ rfl) _ e
 .split at c
  case h_2=>exact absurd c cg
  rename_i n l j o;obtain⟨m,f⟩:=vR c;obtain⟨i,e⟩:=cQ f;obtain rfl:=aF e;exact(vS.cr<|h _<|by rw[j];simp).trans (vS.put _ _ _)
 .exact absurd c cg
def Xn{b val tid buf d}{v:Nat->ch}{σ aQ}(h:p b)(e:(σ.bu b val tid buf λc σ=>.ret (σ.put d<|v c)).run=aa aQ):vS p σ aQ:=cf.bu h _ e
def OI{nb e d args σ aQ}(f:∀k,d=aa k->p (nb+k))(g:∀b,σ.mem b≠af->p b)(c:(mT nb e d args σ).run=aa aQ):vS p σ aQ:=by
 unfold mT at c;split at c
 case h_2=>cases c
 split at c
 case h_2=>cases c
 rename_i h;obtain⟨_,c⟩:=ay c;obtain⟨_,c⟩:=cQ c;exact((zw h) g).1.trans (Xn (f _ rfl) c)
def Uv{e A res spec d args σ aQ}(i:∀b,σ.mem b≠af->p b)(c:(ua e A res spec d args σ).run=aa aQ):vS p σ aQ:=by
 unfold ua at c;split at c
 case h_2=>cases c
 split at c
 case h_2=>cases c
 rename_i x bL j;split at c
 case h_2=>cases c
 rename_i b m q l g;obtain⟨r,_,c⟩:=cd c;obtain⟨n,_⟩:=uW g;obtain⟨h,o⟩:=(B5 j) i;have key:∀f,vS p bL (bL.cr b f):=λf=>vS.cr (o b<|by rw[n];simp);cases res with
 | true =>
   cases d with
   | none=>cases c
   | some k=>obtain rfl:=aF c;exact(h.trans<|key _).trans (vS.put _ _ _)
 | false =>
   cases d with
   | none=>obtain⟨_,c⟩:=ay c;obtain rfl:=aF c;exact(h.trans<|key _).trans (vS.bt _ af _)
   | some k=>obtain⟨_,c⟩:=ay c;obtain rfl:=aF c;exact(h.trans<|key _).trans (vS.bt _ _ _)
end
def OJ{p:Prop}(h:p:=by
 repeat' (first
  | exact cf.fail|exact cf.ret (vS.bt _ _ _)|exact cf.ret (vS.put _ _ _)|exact cf.bu (by assumption)
  | refine cf.bif ?_|refine cf.jw ?_|refine cf.look λ_=>?_|refine cf.node ?_ ?_|refine cf.bind λ_ _=>?_|split)):p:=h
section
variable {cx:Ctx} {nb:Nat} {bf:List Nat} {d:Option Nat} {σ:St} {p:Nat->Prop}
def RQ{c a b}:cf p σ (pO d c a b σ):=by unfold pO;exact OJ
def RR{ty a}:cf p σ (mq cx d ty a σ):=by unfold mq;exact OJ
def OK{ty x lo hi}:cf p σ (mQ cx d ty x lo hi σ):=by unfold mQ;exact OJ
def aaM{b aM i}:∀{m k},cf p σ (Lq d b aM σ i m k):=by
 intro m;induction m with
 | zero=>exact cf.fail
 | succ m c=>exact cf.node (cf.ret<|vS.bt _ _ _) c
def yi{ty x i}:cf p σ (eE cx d ty x i σ):=by
 unfold eE;split
 case h_6=>split
           .exact cf.bif aaM
           .exact cf.fail
 all_goals exact OJ
def OL{ty x i}:cf p σ (mR cx d ty x i σ):=by
 unfold mR;split
 .refine cf.bif ?_;split
  .exact cf.bif (cf.ret<|vS.bt _ _ _)
  .exact cf.fail
 .exact yi
def OM{ty x i}:cf p σ (mS cx d ty x i σ):=by unfold mS;exact OJ
def F0{s x k}:cf p σ (fc cx d s x k σ):=by unfold fc;exact OJ
def B7{ty v}(b:∀k,d=aa k->p (nb+k)):cf p σ (kk cx nb bf d ty v σ):=by
 unfold kk;split
 .exact OJ
 .split
  .rename_i k e _;cases cU bf k with
   | true=>exact cf.bu (b _ rfl)
   | false=>exact cf.ret (vS.put _ _ _)
  .exact cf.ret (vS.bt _ _ _)
 .exact cf.ret (vS.bt _ _ _)
def J2{s t x}(hn:∀k,d=aa k->p (nb+k)):cf p σ (iv cx nb d s t x σ):=by
 unfold iv;split
 .exact OJ
 .exact OJ
 .split
  .exact cf.jw (cf.bu<|hn _ rfl)
  .exact cf.fail
 .exact OJ
 .exact OJ
def Xo{o ge}(L:rX o σ=ge)(E:cls cx ge o≠3)(hn:cls cx ge o≠0->∀k,o.dst=aa k->p (nb+k))(C:cls cx ge o≠0->cls cx ge o≠1->∀b,σ.mem b≠af->p b):cf p σ (rV cx nb bf zl o σ):=by
 unfold rV;split
 case h_1 x h=>exact B7 (hn<|by simp[cls,h])
 case h_2 x h=>exact B7 (hn<|by simp[cls,h])
 case h_3=>exact RQ
 case h_4 e h =>
  split
  .rename_i k t S H;have W:cls cx ge o≠0:=by
    cases t<;>simp[cls,h,H]
   unfold wF;split
   .exact absurd (by simp[cls,h,H]) E
   .exact cf.bu (hn W _<|by assumption)
  .rename_i H;split
   .rename_i F;exact absurd (by simp[cls,h,H,F]) E
   .rename_i F;exact cf.bif (cf.bu<|hn (by simp[cls,h,H,F]) _<|by assumption)
  .exact cf.fail
 case h_5 e x h =>
  unfold Ft;split
  .exact cf.fail
  .exact cf.fail
  .split
   .rename_i F;exact absurd (by simp[cls,h,F]) E
   .rename_i F;exact cf.bu (hn (by simp[cls,h,F]) _<|by assumption)
  .exact cf.fail
 case h_6 t ps h =>
  have j:=C (by simp[cls,h]) (by simp[cls,h]);split
  .split
   .rename_i X k0 Y;unfold wR;split
    .exact cf.bif (cf.bu<|hn (by simp[cls,h]) X (BZ Y).1)
    .exact cf.fail
   split
   .rename_i v;exact cf.ret ((RP v j).1.trans<|vS.bt _ _ _)
   .exact cf.fail
  .split
   .rename_i v;exact cf.ret ((yS v j).1.trans<|vS.bt _ _ _)
   .exact cf.fail
  .exact OJ
  .exact cf.fail
 case h_7 t n ps h =>
  have j:=C (by simp[cls,h]) (by simp[cls,h]);split
  .split
   .rename_i k I K;exact cf.bu (hn (by simp[cls,h]) k (EC I).1)
   .refine cf.bif ?_;split
    .rename_i v;split
     .rename_i k S;exact λy z=>(yS v j).1.trans (cf.bu (hn (by simp[cls,h]) k<|yh S) _ z)
     .exact cf.ret ((yS v j).1.trans<|vS.bt _ _ _)
    .exact cf.fail
  .unfold CW;split
   .exact cf.bif (cf.bu<|hn (by simp[cls,h]) _<|by assumption)
   .exact cf.fail
  .exact cf.fail
 case h_8=>exact RR
 case h_9 t a x h =>
  have j:=C (by simp[cls,h]) (by simp[cls,h]);split
  .exact λy z=>(OH z j).1
  .exact cf.fail
 case h_10=>exact OJ
 case h_11=>exact OJ
 case h_12=>exact OJ
 case h_13 s t x h=>exact J2 (hn<|by simp[cls,h])
 case h_14=>exact OJ
 case h_15=>exact OK
 case h_16=>exact F0
 case h_17=>exact OJ
 case h_18=>split
            .cases cU bf 5000000 with
             | true=>exact OL
             | false=>exact yi
            .exact cf.fail
 case h_19=>split
            .exact OM
            .exact cf.fail
 case h_20 t l c h =>
  split
  .exact cf.jw (cf.jw<|cf.bu<|hn (by simp[cls,h]) _<|by assumption)
  .exact cf.fail
 case h_21=>exact OJ
 case h_22 c h =>
  unfold wT;split
  .rename_i b v;split
   .exact OJ
   .have G:cls cx ge o≠0:=by simp[cls,h,v]
    have T:cls cx ge o≠1:=by simp[cls,h,v]
    split
    .exact λy z=>B6 (hn G) (C G T) z
    .exact λy z=>B6 (hn G) (C G T) z
    .exact cf.fail
   .exact absurd (by simp[cls,h,v]) E
   .exact absurd (by simp[cls,h,v]) E
   .exact OJ
   .exact OJ
   .exact cf.fail
  .rename_i f D;split
   .rename_i g U M;refine cf.bif ?_;have q:ge=aa g:=by rw[<-L];simp[rX,h,D,M]
    unfold vP;split
    .rename_i e O;have key:cls cx ge o=2:=by simp[cls,h,D,q,yg O]
     have G:cls cx ge o≠0:=by rw[key];simp
     exact λy z=>OI (hn G) (C G<|by rw[key];simp) z
    .rename_i e A r s O;have key:cls cx ge o=2:=by simp[cls,h,D,q,yg O]
     exact λy z=>Uv (C (by rw[key];simp)<|by rw[key];simp) z
    unfold yN;split
    .rename_i Z i;split
     .split
      .exact cf.look λ_=>cf.ret (vS.bt _ _ _)
      .exact cf.fail
     .rename_i R;have key:cls cx ge o=2:=by
       unfold cls;simp only[h,D,q];split
       .rfl
       .rfl
       .simp[i,R]
      split
      .rename_i J;exact cf.look λ_=>cf.ret ((B5 J<|C (by rw[key];simp)<|by rw[key];simp).1.trans<|vS.bt _ _ _)
      .exact cf.fail
    .rename_i i;split
     .rename_i s m;unfold CV;split
      .exact absurd (by simp[cls,h,D,q,i,m]) E
      .exact absurd (by simp[cls,h,D,q,i,m]) E
      .exact cf.fail
     .rename_i m;exact absurd (by simp[cls,h,D,q,i,m]) E
   .exact cf.fail
  .rename_i r V D;have key:cls cx ge o=2:=by simp[cls,h,D]
   unfold tz;split
   .split
    .rename_i J;exact cf.look λ_=>cf.ret ((B5 J<|C (by rw[key];simp)<|by rw[key];simp).1.trans<|vS.bt _ _ _)
    .exact cf.fail
   .exact cf.fail
 case h_23 u x h =>
  have key:cls cx ge o=2:=by simp[cls,h]
  unfold tw;split
  .split
   .split
    .rename_i J;exact cf.ret ((zw J<|C (by rw[key];simp)<|by rw[key];simp).1.trans<|vS.bt _ _ _)
    .exact cf.fail
   .exact cf.fail
  .exact cf.fail
 case h_24=>exact cf.fail
end
end Go.Ge
namespace Go.Ge
open RowKit
def Le(c e:St):Prop:=∀b f,c.mem b=aa f->e.mem b=aa f
structure Rel (bL cI pB n7:St):Prop where
 s1:pB.bb=bL.bb
 s2:n7.bb=cI.bb
 m:∀b,n7.mem b=match pB.mem b with|some x=>aa x|none=>cI.mem b
 nv:∀b,pB.mem b=af->bL.mem b=af
section
variable {bL cI pB n7 ρ1 ρ2:St}
def Rel.refl(h:Le bL cI):Rel bL cI bL cI where
 s1:=rfl
 s2:=rfl
 m:=λb=>by
  cases c:bL.mem b with
  | none=>rfl
  | some x=>exact h b x c
 nv:=λ_ h=>h
def Rel.le(h:Rel bL cI pB n7):Le pB n7:=λb e c=>by rw[h.m,c]
def Rel.trans(h:Rel bL cI pB n7)(k:Rel pB n7 ρ1 ρ2):Rel bL cI ρ1 ρ2 where
 s1:=k.s1.trans h.s1
 s2:=k.s2.trans h.s2
 m:=λb=>by
  rw[k.m b];cases c:ρ1.mem b with
  | some x=>rfl
  | none=>rw[h.m b,k.nv b c]
 nv:=λb c=>h.nv b (k.nv b c)
def Rel.cr(f:Le bL cI){b bx}:Rel bL cI (bL.cr b bx) (cI.cr b bx) where
 s1:=rfl
 s2:=rfl
 m:=λc=>by
  by_cases e:c=b
  .subst e;simp[St.cr]
  .rw[wY,wY,aZ _ e,aZ _ e];exact(Rel.refl f).m c
 nv:=λc g=>by
  by_cases e:c=b
  .subst e;simp[St.cr] at g
  .rw[wY,aZ _ e] at g;exact g
def C0{σ τ}(h:τ.bb=σ.bb) x:cW τ x=cW σ x:=by
 cases x<;>simp[cW,h]
def C1(h:Le bL cI){e v l}(c:jx e bL v=aa l):jx e cI v=aa l:=by
 unfold jx at c⊢;cases v with
 | whole b aM =>
   simp only at c⊢;cases f:bL.mem b with
   | none=>rw[f] at c;cases c
   | some g=>rw[f] at c;rw[h b g f];exact c
 | part b aM lo n =>
   simp only at c⊢;cases f:bL.mem b with
   | none=>rw[f] at c;cases c
   | some g=>rw[f] at c;rw[h b g f];exact c
 | data u y=>cases u<;>exact c
 | _=>exact c
def Zi(h:Le bL cI):∀{t v x},td bL t v=aa x->td cI t v=aa x:=by
 intro t;induction t with
 | slice e l=>intro v x c;exact C1 h c
 | pair a b f g =>
   intro v x c;cases v with
   | mix p q =>
     obtain⟨y,z,i,j,rfl⟩:=FK c;exact PU (f i) (g j)
   | data u y=>exact c
   | _=>cases c
 | alt u a r f k =>
   intro v x c;cases v with
   | uP=>exact(rm c).2.1 _
   | _=>exact c
 | _=>intro v x c;cases v<;>exact c
def sb(h:Le bL cI){b aM}(c:live bL b aM=true):live cI b aM=true:=by
 unfold live at c⊢;cases e:bL.mem b with
 | none=>rw[e] at c;cases c
 | some f=>rw[e] at c;rw[h b f e];exact c
def adY(h:Le bL cI){v n}(c:lenOf bL v=aa n):lenOf cI v=aa n:=by
 unfold lenOf at c⊢;cases v with
 | whole b aM =>
   simp only at c⊢;cases e:bL.mem b with
   | none=>rw[e] at c;cases c
   | some f=>rw[e] at c;rw[h b f e];exact c
 | part b aM lo g =>
   simp only at c⊢;cases hv:live bL b aM with
   | false=>rw[hv] at c;cases c
   | true=>rw[hv] at c;rw[sb h hv];exact c
 | data u y=>cases u<;>exact c
 | _=>exact c
def aaN(h:Le bL cI){e v l}(b:yL e bL v=aa l):yL e cI v=aa l:=by
 unfold yL at b⊢;split at b
 .exact b
 .exact C1 h b
def Mb(h:Le bL cI){b aM r}(c:Ai bL b aM=aa r):Ai cI b aM=aa r:=by
 unfold Ai at c⊢;cases e:bL.mem b with
 | none=>rw[e] at c;cases c
 | some f=>rw[e] at c;rw[h b f e];exact c
def P1(h:Le bL cI){b}(c:freeze bL b=aa pB):∃n7,freeze cI b=aa n7/\Rel bL cI pB n7:=by
 unfold freeze at c⊢;cases g:bL.mem b with
 | none=>rw[g] at c;cases c
 | some i =>
   rw[g] at c;rw[h b i g];cases e:i.ro with
   | true =>
     simp only[e,wP,Lf] at c⊢;subst c;exact⟨_,rfl,Rel.refl h⟩
   | false =>
     cases f:i.lk with
     | true=>simp[e,f] at c
     | false =>
       simp only[e,f,BF,Lf] at c⊢;subst c;exact⟨_,rfl,Rel.cr h⟩
def Xp:∀{v bL cI pB},Le bL cI->jj bL v=aa pB->∃n7,jj cI v=aa n7/\Rel bL cI pB n7:=by
 intro v;induction v with
 | mix p q e f =>
   intro bL cI pB h c;obtain⟨ρ1,i,j⟩:=yf c;obtain⟨ρ2,k,g⟩:=e h i;obtain⟨n7,l,m⟩:=f g.le j;exact⟨n7,by simp only[jj,k,l],g.trans m⟩
 | whole b aM=>intro bL cI pB h c;exact P1 h c
 | part b aM lo n=>intro bL cI pB h c;exact P1 h c
 | _=>intro bL cI pB h c;obtain rfl:=aF c;exact⟨_,rfl,Rel.refl h⟩
def C2(h:Le bL cI){t x v}(b:BN bL t v=aa (x,pB)):∃n7,BN cI t v=aa (x,n7)/\Rel bL cI pB n7:=by
 unfold BN at b⊢;cases v with
 | data u y =>
   simp only at b⊢;split at b
   .rename_i z i;obtain⟨rfl,rfl⟩:=eh (aF b);exact⟨_,rfl,Rel.refl h⟩
   .cases b
 | _ =>
   simp only at b⊢;split at b
   .rename_i y ρ1 c e;obtain⟨rfl,rfl⟩:=eh (aF b);obtain⟨n7,f,g⟩:=Xp h e;rw[Zi h c,f];exact⟨n7,rfl,g⟩
   .cases b
def EE:∀{A x vs bL cI pB},Le bL cI->gD bL A vs=aa (x,pB)->∃n7,gD cI A vs=aa (x,n7)/\Rel bL cI pB n7:=by
 intro A;induction A with
 | pair t r g c =>
   intro x vs bL cI pB h b;cases vs with
   | nil=>cases b
   | cons v vs =>
     simp only[gD] at b⊢;split at b
     .rename_i p ρ1 i;obtain⟨ρ2,j,e⟩:=C2 h i;split at b
      .rename_i q f k;obtain⟨rfl,rfl⟩:=eh (aF b);obtain⟨n7,l,m⟩:=c e.le k;exact⟨n7,by simp only[j,l],e.trans m⟩
      .cases b
     .cases b
 | unit =>
   intro x vs bL cI pB h b;cases vs with
   | nil=>obtain⟨rfl,rfl⟩:=eh (aF b);exact⟨_,rfl,Rel.refl h⟩
   | cons v vs=>cases b
 | _=>intro x vs bL cI pB h b;cases vs<;>cases b
def ON{t}:∀{parts x e bL cI pB},Le bL cI->(∀o∈parts.map (·.2),cW bL o=cW cI o)->iH bL t x parts=aa (e,pB) ->
  ∃n7,iH cI t x parts=aa (e,n7)/\Rel bL cI pB n7:=by
 intro parts;induction parts with
 | nil=>intro x e bL cI pB h g b;obtain⟨rfl,rfl⟩:=eh (aF b);exact⟨_,rfl,Rel.refl h⟩
 | cons p r j =>
   obtain⟨k,o⟩:=p;intro x e bL cI pB h g b;simp only[iH] at b⊢;split at b
   .rename_i u v;split at b
    .rename_i y ρ1 i;rw[(g o aS)] at i;obtain⟨ρ2,l,f⟩:=C2 h i;split at b
     .rename_i z m;obtain⟨n7,n,q⟩:=j f.le (λs c=>by rw[C0 f.s1,C0 f.s2];exact g s (by simp at c⊢;exact .inr c)) b;exact⟨n7,by simp only[l,m,n],f.trans q⟩
     .cases b
    .cases b
   .cases b
def F1{e}:∀{parts l i bL cI pB},Le bL cI->(∀o∈parts.map (·.2),cW bL o=cW cI o)->fG bL e l parts=aa (i,pB) ->
  ∃n7,fG cI e l parts=aa (i,n7)/\Rel bL cI pB n7:=by
 intro parts;induction parts with
 | nil=>intro x v bL cI pB h j b;obtain⟨rfl,rfl⟩:=eh (aF b);exact⟨_,rfl,Rel.refl h⟩
 | cons p r n =>
   obtain⟨k,o⟩:=p;intro l i bL cI pB h j b;simp only[fG] at b⊢;split at b
   .rename_i y ρ1 m;rw[(j o aS)] at m;obtain⟨ρ2,q,g⟩:=C2 h m;cases c:Nat.blt k l.length with
    | false=>rw[c] at b;cases b
    | true =>
      rw[c] at b;obtain⟨n7,s,t⟩:=n g.le (λu f=>by rw[C0 g.s1,C0 g.s2];exact j u (by simp at f⊢;exact .inr f)) b;exact⟨n7,by simp only[q,wP,s],g.trans t⟩
   .cases b
def lift(c:St)(d:Option Nat)(y:St):St :=
 { bb:=match d with|some d=>λt=>bif Nat.beq t d then y.bb d else c.bb t|none=>c.bb
   mem:=λb=>match y.mem b with|some x=>aa x|none=>c.mem b }
def aaO(R:Rel bL cI pB n7) d v:lift cI d (pB.bt d v)=n7.bt d v:=by
 have c:=funext λb=>(R.m b).symm;cases d with
 | none=>simp only[lift,St.bt,c,<-R.s2]
 | some d =>
   simp only[lift,St.bt,St.put,<-R.s2]
   congr 1
   funext t;cases e:Nat.beq t d with
   | true=>simp
   | false=>simp
def LT(b:St)(d:Option Nat)(c e:Tree St):Prop:=∀y,c.run=aa y->e.run=aa (lift b d y)
variable {d:Option Nat}
def LT.fail{T}:LT cI d .fail T:=λy h=>by cases h
def LT.ret(R:Rel bL cI pB n7){v}:LT cI d (.ret<|pB.bt d v) (.ret<|n7.bt d v):=λy h=>by
 obtain rfl:=aF h;rw[aaO R];rfl
def LT.Xq(R:Rel bL cI pB n7){k v}:LT cI (aa k) (.ret<|pB.put k v) (.ret<|n7.put k v):=LT.ret R
def LT.store(R:Rel bL cI pB n7):LT cI af (.ret pB) (.ret n7):=LT.ret (v:=.undef) R
def LT.bif{c t u}(h:LT cI d t u):LT cI d (bif c then t else .fail) (bif c then u else .fail):=by cases c<;>first|exact LT.fail|exact h
def LT.Uw{c b t u}(e:c=true->b=true)(h:LT cI d t u):LT cI d (bif c then t else .fail) (bif b then u else .fail):=by
 cases c with
 | false=>exact LT.fail
 | true=>rw[e rfl];exact h
def LT.jw{c t u}(h:LT cI d t u):LT cI d (.jw c t) (.jw c u):=λy b=>by
 obtain⟨rfl,e⟩:=cQ b;exact h y e
def LT.look{T}{o:Option T}{k b}(h:∀x,LT cI d (k x) (b x)):LT cI d (.look o k) (.look o b):=λy c=>by
 obtain⟨x,rfl,e⟩:=cd c;exact h x y e
def LT.node{c t e b f}(h:LT cI d t b)(k:LT cI d e f):LT cI d (.node c t e) (.node c b f):=λy g=>by
 have:=gG g;cases c with
 | true=>exact h y this
 | false=>exact k y this
def LT.bind{α}{t:Tree α}{f g}(h:∀x,t.run=aa x->LT cI d (f x) (g x)):LT cI d (t.bind f) (t.bind g):=λy c=>by
 obtain⟨x,b,e⟩:=bind_some c;rw[Tree.run_bind,b];exact h x b y e
def LT.bu(e:Le bL cI){k b}(f:bL.mem b=cI.mem b){val tid buf}{v:Nat->ch} :
  LT cI (aa k) (bL.bu b val tid buf λc σ=>.ret (σ.put k<|v c)) (cI.bu b val tid buf λc σ=>.ret (σ.put k<|v c)):=by
 unfold St.bu;rw[<-f];cases g:bL.mem b with
 | none=>exact LT.Xq (Rel.cr e)
 | some bx =>
   simp only;cases bx.lk with
   | true=>exact LT.fail
   | false=>exact LT.Xq (Rel.cr e)
end
end Go.Ge
namespace Go.Ge
open RowKit
section
variable {bL cI:St} {d:Option Nat} {cx:Ctx} {nb:Nat} {bf:List Nat} {inl:Nat->List ch->St->Tree (ch×St)}
def D3(b:Le bL cI)(c:∀k,d=aa k->bL.mem (nb+k)=cI.mem (nb+k)){ty v}:LT cI d (kk cx nb bf d ty v bL) (kk cx nb bf d ty v cI):=by
 have R:=Rel.refl b;unfold kk;cases v with
 | undef=>exact LT.bif (LT.ret R)
 | pN =>
   simp only;split
   .rename_i k e _;cases cU bf k with
    | true=>exact LT.bu b (c k rfl)
    | false=>exact LT.Xq R
   .exact LT.ret R
 | _=>exact LT.ret R
def Ux(e:Le bL cI){c a b}:LT cI d (pO d c a b bL) (pO d c a b cI):=by
 have R:=Rel.refl e;unfold pO;split
 .split
  .split
   .exact LT.ret R
   .exact LT.fail
  .exact LT.node (LT.ret R) (LT.ret R)
 .exact LT.fail
def Uy(c:Le bL cI){ty a}:LT cI d (mq cx d ty a bL) (mq cx d ty a cI):=by
 have R:=Rel.refl c;unfold mq;cases a with
 | cell u x=>exact LT.bif (LT.ret R)
 | ptr b aM p =>
   ((try dsimp only);split<;>first|exact LT.fail|(rename_i e;rw[(c b) _ e];try dsimp only))
   exact LT.bif (LT.bind λx _=>LT.bif (LT.ret R))
 | _=>exact LT.fail
def Mc{pB n7}(R:Rel bL cI pB n7){b aM p fit v}:LT cI af (storeAt b aM p fit v pB) (storeAt b aM p fit v n7):=by
 unfold storeAt
 ((try dsimp only);split<;>first|exact LT.fail|(rename_i e;rw[(R.le b) _ e];try dsimp only))
 exact LT.bif (LT.bind λx _=>LT.bif (LT.bind λc _=>LT.store (R.trans<|Rel.cr R.le)))
def LT.al8{c t u b e}(h:LT cI d t u)(f:LT cI d b e):LT cI d (bif c then t else b) (bif c then u else e):=by cases c<;>first|exact f|exact h
def Xr{pB n7}(R:Rel bL cI pB n7){b aM p n v}:LT cI af (tY b aM p n v pB) (tY b aM p n v n7):=by
 unfold tY
 ((try dsimp only);split<;>first|exact LT.fail|(rename_i e;rw[(R.le b) _ e];try dsimp only))
 exact LT.bif (LT.bind λx _=>LT.bif (LT.bind λc _=>LT.bif (LT.store<|R.trans<|Rel.cr R.le)))
def RS(c:Le bL cI){bf ty a v}:LT cI af (mP cx bf ty a v bL) (mP cx bf ty a v cI):=by
 have R:=Rel.refl c;unfold mP;cases a with
 | ptr b aM p =>
   ((try dsimp only);split<;>first|exact LT.fail|(rename_i e;rw[(c b) _ e];try dsimp only))
   refine LT.bif (LT.bind λf _=>?_);split
   .refine LT.bif (LT.al8 (Xr R) ?_);split
    .rename_i y pB g;obtain⟨n7,h,i⟩:=C2 c g;rw[h];exact Mc i
    .exact LT.fail
   .exact LT.bif (Mc R)
 | _=>exact LT.fail
def aaP{n lo hi}(b:∀x∈lo.toList++hi.toList,cW bL x=cW cI x):bounds bL n lo hi=bounds cI n lo hi:=by
 unfold bounds
 grind
def RT(e:Le bL cI){ty x lo hi}(i:∀x∈lo.toList++hi.toList,cW bL x=cW cI x):LT cI d (mQ cx d ty x lo hi bL) (mQ cx d ty x lo hi cI):=by
 have R:=Rel.refl e;have b:∀n,bounds bL n lo hi=bounds cI n lo hi:=λn=>aaP i;unfold mQ;split
 .rename_i s _;rw[b]
  ((try dsimp only);split<;>first|exact LT.fail|skip)
  exact LT.jw (LT.ret R)
 .rw[b];refine LT.bif ?_
  ((try dsimp only);split<;>first|exact LT.fail|skip)
  exact LT.jw (LT.ret R)
 .rename_i u c f l n _
  ((try dsimp only);split<;>first|exact LT.fail|(rename_i g;rw[(e c) _ g];try dsimp only))
  refine LT.bif ?_;rw[b]
  ((try dsimp only);split<;>first|exact LT.fail|skip)
  exact LT.jw (LT.ret R)
 .rename_i u c f _
  ((try dsimp only);split<;>first|exact LT.fail|(rename_i g;rw[(e c) _ g];try dsimp only))
  refine LT.bif ?_;split
  .refine LT.bif ?_;split
   .exact LT.ret R
   .rw[b]
    ((try dsimp only);split<;>first|exact LT.fail|skip)
    exact LT.jw (LT.ret R)
  .exact LT.fail
 .rw[b];refine LT.Uw (λh=>?_) ?_
  .simp at h⊢;exact⟨sb e h.1,h.2⟩
  ·((try dsimp only);split<;>first|exact LT.fail|skip)
   exact LT.jw (LT.ret R)
 .rename_i m u c f _
  ((try dsimp only);split<;>first|exact LT.fail|(rename_i g;rw[(e c) _ g];try dsimp only))
  refine LT.bif ?_;split
  .rw[b];refine LT.bif ?_
   ((try dsimp only);split<;>first|exact LT.fail|skip)
   exact LT.jw (LT.ret R)
  .exact LT.fail
 .exact LT.fail
def adZ(c:Le bL cI){b aM i}:∀{m k},LT cI d (Lq d b aM bL i m k) (Lq d b aM cI i m k):=by
 intro m;induction m with
 | zero=>exact LT.fail
 | succ m e=>exact LT.node (LT.ret<|Rel.refl c) e
def zx(b:Le bL cI){ty x i}:LT cI d (eE cx d ty x i bL) (eE cx d ty x i cI):=by
 have R:=Rel.refl b;unfold eE;split
 .exact LT.bif (LT.look λ_=>LT.ret R)
 .exact LT.bif (LT.look λ_=>LT.ret R)
 ·((try dsimp only);split<;>first|exact LT.fail|(rename_i c;rw[((λr e=>Mb b e)) _ c];try dsimp only))
  exact LT.bif (LT.jw<|LT.ret R)
 ·((try dsimp only);split<;>first|exact LT.fail|(rename_i c;rw[((λr e=>Mb b e)) _ c];try dsimp only))
  exact LT.bif (LT.jw<|LT.ret R)
 .exact LT.Uw (sb b) (LT.jw<|LT.ret R)
 .split
  .refine LT.Uw (λh=>?_) (adZ b);simp at h⊢;exact⟨h.1,sb b h.2⟩
  .exact LT.fail
 .exact LT.fail
def RU(b:Le bL cI){ty x i}:LT cI d (mR cx d ty x i bL) (mR cx d ty x i cI):=by
 unfold mR;split
 .refine LT.Uw (λh=>?_) ?_
  .simp at h⊢;exact⟨h.1,sb b h.2⟩
  .split
   .exact LT.bif (LT.ret<|Rel.refl b)
   .exact LT.fail
 .exact zx b
def RV(b:Le bL cI){ty x i}:LT cI d (mS cx d ty x i bL) (mS cx d ty x i cI):=by
 have R:=Rel.refl b;unfold mS;split
 .exact LT.look λ_=>LT.ret R
 .exact LT.bif (LT.look λ_=>LT.ret R)
 .exact LT.fail
def HC(b:Le bL cI){s x k}:LT cI d (fc cx d s x k bL) (fc cx d s x k cI):=by
 have R:=Rel.refl b;unfold fc;split
 .refine LT.bif ?_;split
  .exact LT.ret R
  .exact LT.fail
 .refine LT.Uw (sb b) ?_;split
  .split
   .exact LT.ret R
   .exact LT.fail
  .split
   .split
    .exact LT.ret R
    .exact LT.fail
   .exact LT.fail
 .exact LT.fail
def Md(b:Le bL cI)(c:∀k,d=aa k->bL.mem (nb+k)=cI.mem (nb+k)){s t x}:LT cI d (iv cx nb d s t x bL) (iv cx nb d s t x cI):=by
 have R:=Rel.refl b;unfold iv;split
 .exact LT.ret R
 .exact LT.ret R
 .split
  .exact LT.jw (LT.bu b<|c _ rfl)
  .exact LT.fail
 ·((try dsimp only);split<;>first|exact LT.fail|(rename_i e;rw[((λr f=>C1 b f)) _ e];try dsimp only))
  exact LT.ret R
 .exact LT.fail
def D4(c:Le bL cI)(h:∀k,d=aa k->bL.mem (nb+k)=cI.mem (nb+k)){ty s x}:LT cI d (iI cx nb d ty s x bL) (iI cx nb d ty s x cI):=by
 unfold iI;split
 .rename_i k e _
  ((try dsimp only);split<;>first|exact LT.fail|(rename_i f;rw[((λr (i:_=aa r)=>aaN c i)) _ f];try dsimp only))
  split
  .exact LT.jw (LT.bu c<|h _ rfl)
  .rename_i b j;cases f:bL.mem b with
   | none=>exact LT.fail
   | some g =>
     rw[c b g f];cases m:jx e bL _ with
     | none=>exact LT.fail
     | some l =>
       rw[C1 c m];simp only;cases (g.lk||!aiE cx ty g.tid) with
       | true=>exact LT.fail
       | false=>exact LT.jw (LT.Xq<|Rel.cr c)
  .exact LT.fail
 .exact LT.fail
def aaQ(c:Le bL cI){f args}(h:find cx.TX f≠af):LT cI d (yN cx zl d f args bL) (yN cx inl d f args cI):=by
 unfold yN;split
 .split
  .have key:∀{A vs x},jk bL A vs=aa x->jk cI A vs=aa x:=by
    intro A;induction A with
    | pair t r i e =>
      intro vs x b;cases vs with
      | nil=>cases b
      | cons v vs =>
        simp only[jk] at b⊢;split at b
        .rename_i p q j g;rw[Zi c j,e g];exact b
        .cases b
    | unit=>intro vs x b;cases vs<;>exact b
    | _=>intro vs x b;cases vs<;>cases b
   ((try dsimp only);split<;>first|exact LT.fail|(rename_i g;rw[((λr (k:_=aa r)=>key k)) _ g];try dsimp only))
   exact LT.look λ_=>LT.ret (Rel.refl c)
  .split
   .rename_i x pB l;obtain⟨n7,m,n⟩:=EE c l;rw[m];exact LT.look λ_=>LT.ret n
   .exact LT.fail
 .grind
def LT.Zj{pB n7}(R:Rel bL cI pB n7){k b}(e:bL.mem b=cI.mem b){val tid buf}{v:Nat->ch} :
  LT cI (aa k) (pB.bu b val tid buf λc σ=>.ret (σ.put k<|v c)) (n7.bu b val tid buf λc σ=>.ret (σ.put k<|v c)):=by
 have f:pB.mem b=n7.mem b:=by
  rw[R.m b];cases h:pB.mem b with
  | some x=>rfl
  | none=>rw[<-e,R.nv b h]
 unfold St.bu;rw[<-f];cases pB.mem b with
 | none=>exact LT.Xq (R.trans<|Rel.cr R.le)
 | some g =>
   simp only;cases g.lk with
   | true=>exact LT.fail
   | false=>exact LT.Xq (R.trans<|Rel.cr R.le)
def RW(b:Le bL cI)(c:∀k,d=aa k->bL.mem (nb+k)=cI.mem (nb+k)){e args}:LT cI d (mT nb e d args bL) (mT nb e d args cI):=by
 unfold mT;split
 .split
  .rename_i l pB f;obtain⟨n7,g,h⟩:=C2 b f;rw[g];exact LT.bif (LT.jw<|LT.Zj h<|c _ rfl)
  .exact LT.fail
 .exact LT.fail
def aaR{pB n7}(h:Le pB n7){e v r}(c:Aj e pB v=aa r):Aj e n7 v=aa r:=by
 cases v with
 | part b aM lo n =>
   simp only[Aj] at c⊢;cases f:pB.mem b with
   | none=>rw[f] at c;cases c
   | some g=>rw[f] at c;rw[h b g f];exact c
 | whole b aM =>
   simp only[Aj] at c⊢;cases f:pB.mem b with
   | none=>rw[f] at c;cases c
   | some g=>rw[f] at c;rw[h b g f];exact c
 | _=>cases c
def Xs(f:Le bL cI){e A res spec args}:LT cI d (ua e A res spec d args bL) (ua e A res spec d args cI):=by
 unfold ua;split
 .split
  .rename_i x pB h;obtain⟨n7,i,c⟩:=EE f h;rw[i];simp only;split
   .rename_i b j m l g;rw[aaR c.le g];refine LT.look λn=>?_;cases res with
    | true =>
      cases d with
      | none=>exact LT.fail
      | some k=>exact LT.Xq (c.trans<|Rel.cr c.le)
    | false=>cases d<;>exact LT.bif (LT.ret<|c.trans<|Rel.cr c.le)
   .exact LT.fail
  .exact LT.fail
 .exact LT.fail
def Xt(b:Le bL cI)(h:∀k,d=aa k->bL.mem (nb+k)=cI.mem (nb+k)){f args}(c:yM cx bf d f=af->find cx.TX f≠af\/(find cx.TX f=af/\∃e,find cx.PL f=aa (.clone e)))(i:∀s,yM cx bf d f=aa s->(∃e,s=.clone e)\/∃e A r q,s=.own e A r q) :
  LT cI d (vP cx nb bf zl d f args bL) (vP cx nb bf inl d f args cI):=by
 unfold vP;split
 .exact RW b h
 .exact Xs b
 .rename_i l m;have hn:yM cx bf d f=none:=by
   cases n:yM cx bf d f with
   | none=>rfl
   | some s =>
     simp_all
  rcases c hn with g|⟨g,e,j⟩
  .exact aaQ b g
  .unfold yN;rw[g,j];exact LT.fail
def Uz{s f}(h:yM cx bf d f=aa s):(∃e,s=.clone e)\/∃e A r q,s=.own e A r q:=by
 unfold yM at h
 grind
def aaS:∀{ps k},(∀x∈ps.map (·.2),cW bL x=cW cI x)->BP bL k ps=BP cI k ps:=by
 intro ps;induction ps with
 | nil=>intro k _;rfl
 | cons p r b =>
   simp only[BP]
   grind
def I9{fs}:∀{ps v},(∀x∈ps.map (·.2),cW bL x=cW cI x)->mr bL fs v ps=mr cI fs v ps:=by
 intro ps;induction ps with
 | nil=>intro v _;rfl
 | cons p r b =>
   intro v h;simp only[mr];simp_all
def any_eq:∀{ps:List (Nat×Operand)},(∀x∈ps.map (·.2),cW bL x=cW cI x)->ps.any (λp=>rU (cW bL p.2))=ps.any (λp=>rU (cW cI p.2)):=by
 intro ps;induction ps with
 | nil=>intro _;rfl
 | cons p r b=>intro h;simp_all
def UA{t ps v pB}(c:Le bL cI)(b:∀x∈ps.map (·.2),cW bL x=cW cI x)(h:pP bf bL t ps=aa (v,pB)):∃n7,pP bf cI t ps=aa (v,n7)/\Rel bL cI pB n7:=by
 unfold pP at h⊢;rw[any_eq b,I9 b] at h;cases f:cU bf 8600000&&ps.any (λp=>rU (cW cI p.2)) with
 | true =>
   rw[f] at h;simp only[wP] at h⊢;split at h
   case h_2=>cases h
   rename_i e;obtain⟨rfl,rfl⟩:=eh (aF h);exact⟨cI,rfl,Rel.refl c⟩
 | false =>
   rw[f] at h;simp only[BF] at h⊢;split at h
   case h_2=>cases h
   rename_i e;obtain⟨rfl,rfl⟩:=eh (aF h);obtain⟨n7,g,i⟩:=ON c b e;exact⟨n7,by rw[g],i⟩
def aaT(C:Le bL cI){o:Oper}{ge:Option Nat}(hge:rX o cI=ge)(I:cls cx ge o≠3)(j:∀x∈iw o.op,cW bL x=cW cI x)(F:∀k,o.dst=aa k->bL.mem (nb+k)=cI.mem (nb+k)) :
  LT cI o.dst (rV cx nb bf zl o bL) (rV cx nb bf inl o cI):=by
 have R:=Rel.refl C;unfold rV;cases D:o.op with
 | move x=>simp only[D,iw] at j⊢;rw[j x aS];exact D3 C F
 | assign x=>simp only[D,iw] at j⊢;rw[j x aS];exact D3 C F
 | pick c a b=>simp only[D,iw] at j⊢;rw[j c aS,j a aS,j b aS];exact Ux C
 | alloc e =>
   simp only;split
   .rename_i k t E hT;rw[E];unfold wF;split
    .exact absurd (by simp[cls,D,hT]) I
    .exact LT.bu C (F k E)
   .rename_i k E hT;rw[E];split
    .rename_i V;exact absurd (by simp[cls,D,hT,V]) I
    .exact LT.bif (LT.bu C<|F k E)
   .exact LT.fail
 | box e x =>
   simp only[D,iw] at j⊢;rw[j x aS];cases E:o.dst with
   | none=>exact LT.fail
   | some k =>
     have V:find cx.vO e=none:=by
      cases V:find cx.vO e with
      | none=>rfl
      | some fs=>exact absurd (by simp[cls,D,V]) I
     cases cW cI x<;>simp only[Ft,V]<;>first|exact LT.fail|exact LT.bu C (F k E)
 | build t ps =>
   simp only[D] at j⊢;split
   .split
    .rename_i d0 k0 hz;obtain⟨E,_⟩:=BZ hz;unfold wR;rw[E];split
     .exact LT.bif (LT.bu C<|F d0 E)
     .exact LT.fail
    split
    .rename_i L;obtain⟨n7,M,K⟩:=UA C j L;rw[M];exact LT.ret K
    .exact LT.fail
   .split
    .rename_i L;obtain⟨n7,M,K⟩:=F1 C j L;rw[M];exact LT.ret K
    .exact LT.fail
   .split
    .split
     .rw[I9 j];split
      .exact LT.ret R
      .exact LT.ret R
      .exact LT.fail
     .exact LT.fail
    .exact LT.fail
   .exact LT.fail
 | buildSlice t n ps =>
   simp only[D] at j⊢;split
   .split
    .rename_i k W Z;have E:=(EC W).1;rw[E];exact LT.bu C (F k E)
    .refine LT.bif ?_;split
     .rename_i L;obtain⟨n7,M,K⟩:=F1 C j L;rw[M];split
      .rename_i k E;rw[yh E];exact LT.Zj K (F k<|yh E)
      .exact LT.ret K
     .exact LT.fail
   .unfold CW;rw[aaS j];split
    .rename_i k e v E _ _;rw[E];exact LT.bif (LT.bu C<|F _ E)
    .exact LT.fail
   .exact LT.fail
 | load t a=>simp only[D,iw] at j⊢;rw[j a aS];exact Uy C
 | store t a x =>
   simp only[D,iw] at j⊢;rw[j a aS,j x aS];cases E:o.dst with
   | none=>exact RS C
   | some k=>exact LT.fail
 | nilCheck x =>
   simp only[D,iw] at j⊢;rw[j x aS];cases cW cI x with
   | ptr b aM p=>exact LT.Uw (sb C) (LT.ret R)
   | cell t x=>exact LT.ret R
   | fn f c=>exact LT.ret R
   | _=>exact LT.fail
 | binOp op xt x y yt =>
   simp only[D,iw] at j⊢;rw[j x aS,j y aS];intro z hz;obtain⟨v,X,h2⟩:=bind_some hz;have F:(adr cI (find cx.T xt) (cU cx.DI xt) op (cW cI x)<|cW cI y).run=aa v:=by
    unfold adr at X⊢;split at X
    .obtain⟨G,I⟩:=ay X;simp only[gz] at G;rw[sb C G.1,G.2];exact I
    .obtain⟨G,I⟩:=ay X;simp at G;rw[sb C G.1,G.2];exact I
    .exact X
   rw[Tree.run_bind,F];exact LT.ret R z h2
 | unOp op t x=>simp only[D,iw] at j⊢;rw[j x aS];exact LT.bind λ_ _=>LT.ret R
 | convert s t x=>simp only[D,iw] at j⊢;rw[j x aS];exact Md C F
 | makeFunc fn first H =>
   simp only[D] at j⊢;cases fn with
   | func f =>
     simp only;have:H.toList.map _=H.toList.map (cW cI):=Y0 λx hx=>j x (Ad _ hx);rw[this];split
     .exact LT.ret R
     .exact LT.fail
   | _=>exact LT.fail
 | slice t x lo hi m =>
   simp only[D,iw] at j⊢;cases m with
   | some m=>exact LT.fail
   | none =>
     simp only;rw[j x aS];exact RT C λy hy=>j y (vK _ hy)
 | fieldAddr s x k=>simp only[D,iw] at j⊢;rw[j x aS];exact HC C
 | field xt x k =>
   simp only[D,iw] at j⊢;rw[j x aS];split
   .refine LT.bif ?_;split
    .exact LT.ret R
    .exact LT.fail
   .exact LT.fail
 | indexAddr t x i =>
   simp only[D,iw] at j⊢;rw[j x aS,j i aS];split
   .cases cU bf 5000000 with
    | true=>exact RU C
    | false=>exact zx C
   .exact LT.fail
 | index t x i =>
   simp only[D,iw] at j⊢;rw[j x aS,j i aS];split
   .exact RV C
   .exact LT.fail
 | makeSlice t l c =>
   simp only[D,iw] at j⊢;rw[j l aS,j c aS];cases E:o.dst with
   | none=>exact LT.fail
   | some k =>
     split
     .rename_i k' _ _ _ _ _ hk' _ _ _;obtain rfl:=aF hk';exact LT.jw (LT.jw<|LT.bu C<|F k E)
     .exact LT.fail
 | extract t k =>
   simp only[D,iw] at j⊢;rw[j t aS];split
   ·((try dsimp only);split<;>first|exact LT.fail|skip)
    exact LT.ret R
   .exact LT.fail
 | call c =>
   simp only[D,iw] at j⊢;have S:c.args.toList.map _=c.args.toList.map (cW cI):=Y0 λx hx=>j x (Ad _ hx);unfold wT;rw[S];cases G:c.callee with
   | builtin b =>
     simp only;split
     .rename_i x t _ _;cases Zd _ x with
      | true =>
        ((try dsimp only);split<;>first|exact LT.fail|(rename_i hq;rw[((λr (hr:_=aa r)=>adY C hr)) _ hq];try dsimp only))
        exact LT.ret R
      | false =>
        simp;split
        .refine LT.Uw (λh=>?_) (LT.ret R);simp at h⊢;exact⟨sb C h.1,h.2⟩
        .exact LT.fail
     .split
      .exact D4 C F
      .exact D4 C F
      .exact LT.fail
     .exact absurd (by simp[cls,D,G]) I
     .exact absurd (by simp[cls,D,G]) I
     .exact LT.bind λ_ _=>LT.ret R
     .exact LT.bind λ_ _=>LT.ret R
     .exact LT.fail
   | value f =>
     simp only;rw[j f<|by rw[G];simp];split
     .rename_i g H j;have U:(H.all λb=>live bL b.1 b.2)=true->_=true:=λh=>by
       rw[vN] at h⊢;exact λb hm=>sb C (h b hm)
      refine LT.Uw U (Xt C F (λhq=>?_) λs hs=>Uz hs);have Y:ge=aa g:=by rw[<-hge];simp[rX,D,G,j]
      cases O:find cx.TX g with
      | some c=>exact .inl aS
      | none =>
        refine .inr ⟨rfl,?_⟩;cases J:find cx.PL g with
        | none=>exact absurd (by simp[cls,D,G,Y,O,J]) I
        | some s =>
          cases s with
          | clone e=>exact⟨e,rfl⟩
          | own e A r q=>simp[yM,J] at hq
          | _=>exact absurd (by simp[cls,D,G,Y,O,J]) I
     .exact LT.fail
   | invoke r m =>
     simp only;rw[j r<|by rw[G];simp];unfold tz;split
     .split
      .rename_i L;obtain⟨n7,M,K⟩:=EE C L;rw[M];exact LT.look λ_=>LT.ret K
      .exact LT.fail
     .exact LT.fail
 | makeInterface u x =>
   simp only[D,iw] at j⊢;rw[j x aS];unfold tw;split
   .split
    .split
     .rename_i L;obtain⟨n7,M,K⟩:=C2 C L;rw[M];exact LT.ret K
     .exact LT.fail
    .exact LT.fail
   .exact LT.fail
 | _=>exact LT.fail
end
end Go.Ge
namespace Go.Ge
open RowKit
def pQ{l t}:cU l t=true↔t∈l:=by
 induction l with
 | nil=>simp[cU]
 | cons i r b =>
   simp only[cU,Li,fI,b];constructor
   .rintro(h|h)
    .exact .inl (gA h)
    .exact .inr h
   .rintro(h|h)
    .subst h;exact .inl aS
    .exact .inr h
def ko{l t}:cU l t=false↔t∉l:=by
 rw[<-pQ];simp
def Xu{l}{t:Nat}(h:Operand.tmp t∈l):t∈tmpsOf l:=by
 induction l with
 | nil=>cases h
 | cons x r c =>
   rcases fI.1 h with b|b
   .subst b;exact qT ..
   .clear h;have h:=b;cases x<;>simp only[tmpsOf]
    case tmp k=>exact vK _ (c h)
    all_goals exact c h
section
variable {cx:Ctx} {nb:Nat} {bf:List Nat} {inl:Nat->List ch->St->Tree (ch×St)} {σ aQ τ:St}
structure UB (cx:Ctx) (nb:Nat) (o:Oper) (fp:Fp):Prop where
 own:∀k,o.dst=aa k->nb+k∈fp.rd
 sub:∀b∈fp.wr,b∈fp.rd
 w1:cls cx fp.fn o≠0->∀k,o.dst=aa k->nb+k∈fp.wr
 w2:cls cx fp.fn o≠0->cls cx fp.fn o≠1->∀b∈fp.rd,b∈fp.wr
 c3:cls cx fp.fn o≠3
def KK o σ (h:(BQ cx nb o σ).KD=false):UB cx nb o (BQ cx nb o σ):=by
 have c:∀k,o.dst=aa k->nb+k∈Go.Ge.own nb o:=λk e=>by simp[Go.Ge.own,e]
 unfold BQ at h⊢;dsimp only at h⊢;split at h<;>rename_i g
 .exact⟨λk e=>zd _ (c k e),λb f=>(nomatch f),λi=>absurd g i,λi=>absurd g i,by rw[g];decide⟩
 .exact⟨λk e=>zd _ (c k e),λb f=>zd _ f,λ_ k e=>c k e,λ_ j=>absurd g j,by rw[g];decide⟩
 .exact⟨λk e=>zd _ (c k e),λb f=>f,λ_ k e=>zd _ (c k e),λ_ _ b f=>f,by rw[g];decide⟩
 .cases h
def agG{ts rd}:Le { (σ.only ts rd) with bb:=σ.bb } σ:=λb f c=>by
 simp only[St.only] at c;cases e:cU rd b with
 | true=>rw[e] at c;exact c
 | false=>rw[e] at c;cases c
def UC{ts rd}:Le (σ.only ts rd) σ:=λb c e=>agG (ts:=ts) b c e
def UD{l rd x}(b:x∈l):cW (σ.only (tmpsOf l) rd) x=cW σ x:=by
 cases x with
 | tmp t =>
   have:=pQ.2 (Xu b);simp only[cW,St.only,this,wP]
 | _=>rfl
def agH{a b}(h:aj8 a b=true):a=b:=by
 cases a<;>cases b<;>first|rfl|cases h|exact congrArg aa (gA h)
def OO o rd:rX o (σ.only (tmpsOf<|iw o.op) rd)=rX o σ:=by
 unfold rX;split
 .rename_i c b;split
  .rename_i x e;rw[UD<|by rw[b];simp[iw,e]]
  .rfl
 .rfl
def C3{fp o}(f:fp.KD=false->UB cx nb o fp)(i:(jl cx nb bf inl fp o σ).run=aa aQ):(rV cx nb bf inl o σ).run=aa aQ:=by
 unfold jl at i;cases c:fp.KD with
 | true=>rw[c] at i;exact i
 | false =>
   have f:=f c;rw[c] at i;obtain⟨τ,g,u⟩:=bind_some i;obtain rfl:=aF u;obtain⟨e,g⟩:=ay g;have e:=agH e;have v:=aaT (inl:=inl) UC (by rw[<-e];exact(OO ..).symm) f.c3 (λx y=>UD y)
    (λk n=>by simp only[St.only,pQ.2 (f.own k n),wP]) τ g
   rw[v];have hC:=Xo e f.c3 (λq k n=>f.w1 q k n) (λq g b r=>by
    refine f.w2 q g b ?_;simp only[St.only] at r;cases j:cU fp.rd b with
    | true=>exact pQ.1 j
    | false=>rw[j] at r;exact absurd rfl r) τ g
   have j:(λb=>match τ.mem b with|some x=>aa x|none=>σ.mem b)=λb=>bif cU fp.wr b then τ.mem b else σ.mem b:=by
    funext b;have s:b∈fp.rd->(σ.only (tmpsOf<|iw o.op) fp.rd).mem b=σ.mem b:=λh=>by simp only[St.only,pQ.2 h,wP]
    cases t:cU fp.wr b with
    | true =>
      simp;cases l:τ.mem b with
      | some x=>rfl
      | none =>
        rw[<-s (f.sub b<|pQ.1 t)];rcases hC b with k|k
        .rw[<-k,l]
        .exact absurd l k.1
    | false =>
      rcases hC b with k|k
      .rw[k];cases l:(σ.only _ fp.rd).mem b with
       | none=>rfl
       | some x=>exact(UC b x l).symm
      .exact absurd k.2 (ko.1 t)
   exact congrArg (λm=>aa _) j
def C4{a b}(h:aaA a b=true){x}(c:x∈a):x∉b:=by
 simp only[aaA,vN,DF] at h;exact ko.1 (h x c)
def apart_spec{x y f g}(h:apart x y f g=true):f.KD=false/\g.KD=false/\(∀b∈f.wr,b∉g.rd)/\(∀b∈g.wr,b∉f.rd) /\
  (∀d,x.dst=aa d->d∉tmpsOf (iw y.op))/\(∀d,y.dst=aa d->d∉tmpsOf (iw x.op))/\(∀d e,x.dst=aa d->y.dst=aa e->d≠e):=by
 simp only[apart,gz,DF] at h;obtain⟨⟨⟨⟨⟨l,m⟩,n⟩,o⟩,c⟩,j⟩:=h;refine⟨l,m,λb k=>C4 n k,λb k=>C4 o k,λd i=>?_,λd i=>?_,λd e i r=>?_⟩
 .rw[i] at c;simp at c;exact ko.1 c.1
 .rw[i] at j;simp at j;exact ko.1 j
 .rw[i,r] at c;intro q;subst q;simp at c
def F2{d wr ts rd}(f:∀k,d=aa k->k∉ts)(g:∀b∈wr,b∉rd):(lay σ d wr τ).only ts rd=σ.only ts rd:=by
 unfold St.only lay
 congr 1
 .funext t;cases c:cU ts t with
  | false=>rfl
  | true =>
    cases d with
    | none=>rfl
    | some k =>
      have:t≠k:=λe=>f k rfl (by rw[<-e];exact pQ.1 c);simp[iJ this]
 .funext b;cases c:cU rd b with
  | false=>rfl
  | true =>
    have:=λh=>g b h (pQ.1 c);simp[ko.2 this]
def ad0{h g f i bL cI}(j:apart h g f i=true)(l:∀b∈f.wr,b∈f.rd)(m:(jl cx nb bf inl f h σ).run=aa bL)(n:(jl cx nb bf inl i g bL).run=aa cI) :
  ∃c,(jl cx nb bf inl i g σ).run=aa c/\(jl cx nb bf inl f h c).run=aa cI:=by
 obtain⟨x,y,z,u,A,C,D⟩:=apart_spec j;unfold jl at m n⊢;simp only[x,y,BF] at m n⊢;obtain⟨E,F,G⟩:=bind_some m;obtain rfl:=aF G;obtain⟨o,v,H⟩:=bind_some n;obtain rfl:=aF H;rw[F2 A z] at v;refine⟨lay σ g.dst i.wr o,by rw[Tree.run_bind,v];rfl,?_⟩;rw[F2 C u,Tree.run_bind,F];show aa _=aa _
 congr 1
 unfold lay
 congr 1
 .cases hi:h.dst with
  | none=>rfl
  | some k =>
    cases I:g.dst with
    | none=>rfl
    | some e =>
      have q:=D k e hi I;funext t;by_cases r:t=k
      .subst r;simp[iJ q]
      .by_cases K:t=e
       .simp[iJ r]
       .simp[iJ r]
 .funext b;dsimp only;cases s:cU f.wr b with
  | false=>rfl
  | true =>
    have:=λJ=>u b J (l b<|pQ.1 s);simp[ko.2 this]
inductive Reach (ops:Array Oper):Nat->Nat->Prop where
 | step {i:Nat} {o:Oper} {e:Edge} (h:ops[i]?=aa o) (he:e∈o.after) (hb:Region.binds .any e=true):Reach ops i e.on
 | more {i k:Nat} {o:Oper} {e:Edge} (h:ops[i]?=aa o) (he:e∈o.after) (hb:Region.binds .any e=true) (r:Reach ops e.on k):Reach ops i k
def RX(c:Array Oper)(b:Array Bool):Prop:=∀i o e,b.getD i false=true->c[i]?=aa o->e∈o.after->Region.binds .any e=true->b.getD e.on false=true
def Reach.listed{ops listed}(f:RX ops listed){i k}(h:Reach ops i k):listed.getD i false=true->listed.getD k false=true:=by
 induction h with
 | step h b c=>exact λe=>f _ _ _ e h b c
 | more h b c r g=>exact λe=>g (f _ _ _ e h b c)
def Reach.ready{ops listed}(g:RX ops listed){i k}(h:Reach ops i k)(j:i∈Region.ready .any ops listed):listed.getD k false=true:=by
 obtain⟨_,o,f,b⟩:=mem_ready.1 j;cases h with
 | step h c e =>
   obtain rfl:=aF (f.symm.trans h);exact b _ c e
 | more h c e r =>
   obtain rfl:=aF (f.symm.trans h);exact r.listed g (b _ c e)
def RX.list{ops listed}(r:RX ops listed){i}(s:i∈Region.ready .any ops listed):RX ops (listed.setIfInBounds i true):=by
 obtain⟨_,t,c,b⟩:=mem_ready.1 s;have up:∀k,listed.getD k false=true->(listed.setIfInBounds i true).getD k false=true:=by
  intro k g;by_cases e:i=k
  .subst e;rcases rR i listed.size with f|f
   .simp[f]
   .simp[TB f] at g
  .rw[getD_set_ne false e];exact g
 intro j o e h l m n;by_cases q:i=j
 .subst q;obtain rfl:=aF (c.symm.trans l);exact up _ (b e m n)
 .rw[getD_set_ne false q] at h;exact up _ (r j o e h l m n)
def UE{b:Array Bool}{i}(f:b.getD i true=false)(c:b.getD i false=true):False:=by
 rcases rR i b.size with e|e
 .simp[e] at f c;rw[f] at c;cases c
 .simp[TB e] at c
def ud(e:Array Oper)(c:List T3):Prop:=∀k,∀b,Nat.testBit (maskAt c k) b=true->Reach e k b
def EF{ops done}(n:ud ops done){i o}(k:ops[i]?=aa o){b}(h:Nat.testBit (mask done o) b=true):Reach ops i b:=by
 have key:∀l,(∀e∈l,e∈o.after)->Nat.testBit (wG done l) b=true->Reach ops i b:=by
  intro l;induction l with
  | nil=>intro _ h;simp[wG] at h
  | cons e r m =>
    intro f h;simp only[wG] at h;cases g:Region.binds .any e with
    | false=>rw[g] at h;exact m (λj c=>f j (vK _ c)) h
    | true =>
      rw[g] at h;simp at h;rcases h with (h|h)|h
      .exact m (λj c=>f j (vK _ c)) h
      .rw[Nat.testBit_two_pow] at h;have:e.on=b:=by simpa using h
       subst this;exact .step k (f e<|qT ..) g
      .exact .more k (f e<|qT ..) g (n _ _ h)
 exact key _ (λe q=>by simpa using q) h
def ud.nil{ops}:ud ops []:=λk b h=>by simp[maskAt] at h
def ud.cons{ops done}(e:ud ops done){i o f}(g:ops[i]?=aa o):ud ops ((i,o,f,mask done o)::done):=by
 intro k b h;simp only[maskAt] at h;cases c:Nat.beq i k with
 | true =>
   rw[c] at h;obtain rfl:=gA c;exact EF e g h
 | false=>rw[c] at h;exact e k b h
def ad1(c:Ctx)(e:Nat)(f:List Nat)(inl:Nat->List ch->St->Tree (ch×St))(b:Array Oper)(g:Nat->Fp)(Q:St->Prop):Nat->Array Bool->St->Prop
 | 0,listed,σ=>Region.ready .any b listed=[]/\Q σ
 | n+1,listed,σ=>(Region.ready .any b listed=[]->Q σ) /\
  ∀i∈Region.ready .any b listed,∃o aQ,b[i]?=aa o/\o.guard=af/\(jl c e f inl (g i) o σ).run=aa aQ/\ad1 c e f inl b g Q n (listed.setIfInBounds i true) aQ
variable {ops:Array Oper} {fp:Nat->Fp} {Q:St->Prop}
def Xv{i o}(E:ops[i]?=aa o)(u:o.guard=af)(v:∀b∈(fp i).wr,b∈(fp i).rd):∀n c σ bL,
  RX ops c->(∀j s,ops[j]?=aa s->j≠i->c.getD j true=false->Reach ops j i\/apart o s (fp i) (fp j)=true) ->
  i∈Region.ready .any ops c->(jl cx nb bf inl (fp i) o σ).run=aa bL->ad1 cx nb bf inl ops fp Q n (c.setIfInBounds i true) bL->ad1 cx nb bf inl ops fp Q (n+1) c σ:=by
 intro n;induction n with
 | zero =>
   intro c σ bL f g q A H;refine⟨λh=>(by rw[h] at q;cases q),λj t=>?_⟩;by_cases e:j=i
   .subst e;exact⟨o,bL,E,u,A,H⟩
   .have:=ready_mono t e;rw[H.1] at this;cases this
 | succ n I =>
   intro c σ bL f g q A H;refine⟨λh=>(by rw[h] at q;cases q),λj t=>?_⟩;by_cases e:j=i
   .subst e;exact⟨o,bL,E,u,A,H⟩
   .obtain⟨s,cI,x,C,J,K⟩:=H.2 j (ready_mono t e);obtain⟨l,L,F,G⟩:=mem_ready.1 t;have r:apart o s (fp i) (fp j)=true:=by
     rcases g j s x e l with M|r
     .exact(UE (mem_ready.1 q).1<|M.ready f t).elim
     .exact r
    obtain⟨m,O,R⟩:=ad0 r v A J;refine⟨s,m,x,C,O,I _ m cI (f.list t) (λk S T D y=>g k S T D ?_) (ready_mono q<|IM e) R ?_⟩
    .by_cases z:j=k
     .subst z;exact l
     .rw[getD_set_ne true z] at y;exact y
    .rw[ah3 _ _ e];exact K
end
end Go.Ge
namespace Go.Ge
open RowKit
section
variable {P:Program} {B:BT} {N:Nat} {γ:Gh} {cx:Ctx} {nb:Nat} {bf:List Nat} {inl:Nat->List ch->St->Tree (ch×St)} {σ aQ τ:St} {ops:Array Oper} {fp:Nat->Fp}
def agI(f:Ctx)(g:Nat)(h:List Nat)(inl:Nat->List ch->St->Tree (ch×St))(c:Array Oper)(b:Nat->Fp):Nat->List Oper->St->St->Prop
 | _,[],σ,aQ=>σ=aQ
 | k,o::l,σ,aQ=>o.guard=af/\((b k).KD=false->UB f g o (b k))/\((b k).KD=true->(b k).wr=[])/\(∀e∈o.after,Region.binds .any e=true->e.on<k) /\
  (∀j i,l[j]?=aa i->Reach c (k+1+j) k\/apart o i (b k) (b<|k+1+j)=true) /\
  ∃bL,(jl f g h inl (b k) o σ).run=aa bL/\agI f g h inl c b (k+1) l bL aQ
def Me{o f b k m mk ok r}(h:loose o f m ((k,ok,b,mk)::r)=true):(Nat.testBit m k=true\/apart ok o b f=true)/\loose o f m r=true:=by
 simp only[loose,gz,Li] at h;exact h
def ad2 o σ (h:(BQ cx nb o σ).KD=true):(BQ cx nb o σ).wr=[]:=by
 unfold BQ at h⊢;dsimp only at h⊢;split at h<;>first|cases h|skip
 rfl
def RY:∀l k c σ,(∀j o,l[j]?=aa o->ops[k+j]?=aa o)->ud ops c->(Ls cx nb bf inl (number k l) c σ).run=aa aQ ->
  ∃n:List (Fp×Nat),n.length=l.length/\(∀j m b,n[j]?=aa m->Nat.testBit m.2 b=true->Reach ops (k+j) b) /\
   ∀fp,(∀j f,n[j]?=aa f->fp (k+j)=f.1)->agI cx nb bf inl ops fp k l σ aQ/\∀j o f,l[j]?=aa o->n[j]?=aa f->loose o (fp<|k+j) f.2 c=true:=by
 intro l;induction l with
 | nil =>
   intro k c σ _ _ h;exact⟨[],rfl,λj m b h=>absurd h aS,λfp _=>⟨aF h,λj o f g=>absurd g aS⟩⟩
 | cons o l E =>
   intro k c σ x y h;simp only[number,Ls] at h;split at h
   .cases h
   .rename_i F;obtain⟨u,G⟩:=ay h;obtain⟨bL,H,I⟩:=bind_some G;simp only[gz] at u;have z:=x 0 o rfl;obtain⟨n,A,C,J⟩:=E _ _ bL (λj v g=>by have:=x (j+1) v (by simpa using g);rw[<-this];congr 1;omega) (y.cons z) I;refine⟨(BQ cx nb o σ,mask c o)::n,by simp[A],λj m b g i=>?_,λfp r=>?_⟩
    .cases j with
     | zero=>obtain rfl:=aF g;exact EF y z i
     | succ j=>have:=C j m b (by simpa using g) i;rw[show k+_=k+1+j by omega];exact this
    have s:fp k=BQ cx nb o σ:=r 0 _ rfl;obtain⟨K,D⟩:=J fp λj f g=>by have:=r (j+1) f (by simpa using g);rw[<-this];congr 1;omega
    refine⟨⟨F,λi=>by rw[s] at i⊢;exact KK o σ i,λi=>by rw[s] at i⊢;exact ad2 o σ i,λe L i=>?_,λj M g=>?_,bL,by rw[s];exact H,K⟩,λj v f g t=>?_⟩
    .have:=u.2;rw[<-Array.all_toList,vN] at this;have:=this e (by simpa using L);rw[i] at this;have:=JH (by simpa [Nat.blt] using this);omega
    .obtain⟨f,t⟩:∃f,n[j]?=aa f:=⟨_,fX (by rw[A];exact(hR.1 g).1)⟩;rcases(Me<|D j M f g t).1 with q|q
     .exact .inl (C j f k t q)
     .rw[s];exact .inr q
    .cases j with
     | zero =>
       obtain rfl:=aF g;obtain rfl:=aF t;rw[Fm,s];exact u.1
     | succ j =>
       have:=(Me<|D j v f (by simpa using g)<|by simpa using t).2;rw[show k+_=k+1+j by omega];exact this
def ad3:∀l k c σ,(∀j,l[j]?=ops[k+j]?)->c.size=ops.size->(∀j,j<k->j<ops.size->c.getD j false=true) ->
  (∀j,k<=j->j<ops.size->c.getD j true=false)->RX ops c->agI cx nb bf inl ops fp k l σ aQ->ad1 cx nb bf inl ops fp (·=aQ) l.length c σ:=by
 intro l;induction l with
 | nil =>
   intro k c σ x hs y D f h;refine⟨?_,h⟩;cases I:Region.ready .any ops c with
   | nil=>rfl
   | cons i r =>
     obtain⟨E,o,H,_⟩:=mem_ready.1 (by rw[I];exact qT ..);have n:=(wL.1 H).1;rcases rR i k with v|v
     .have:=y i v n;simp[hs,n] at this E;rw[this] at E;cases E
     .have:=x (i-k);rw[show k+_=i by omega,H] at this;cases this
 | cons o l J =>
   intro k c σ x hs y D f h;have v:ops[k]?=aa o:=by simpa using(x 0).symm
   have n:=(wL.1 v).1;obtain⟨K,L,F,M,O,bL,R,S⟩:=h;have g:=mem_ready.2 ⟨D k (bX _) n,o,v,λe T z=>by
    have:=M e T z;exact y e.on this ag⟩
   refine Xv v K (λb z=>?_) l.length c σ bL f (λj U C V t=>?_) g R (J _ _ bL (λj=>?_) (by simp[hs]) (λj C u=>?_) (λj C u=>?_) (f.list g) S)
   .cases q:(fp k).KD with
    | true=>rw[F q] at z;cases z
    | false=>exact(L q).sub b z
   .have s:=(wL.1 C).1;rcases rR j k with A|A
    .exfalso;have:=y j A s;simp[hs,s] at this t;rw[this] at t;cases t
    .have G:=x (j-k);rw[show k+_=j by omega,C] at G;obtain⟨m,W⟩:∃m,j-k=m+1:=⟨j-k-1,ag⟩;rw[W] at G;have:=O m U (by simpa using G);rw[show k+1+m=j by omega] at this;exact this
   .have:=x (j+1);rw[show k+1+j=k+(j+1) by omega,<-this];simp
   .by_cases e:j=k
    .subst e;simp[hs,n]
    .rw[getD_set_ne false<|IM e];exact y j ag u
   .rw[getD_set_ne true (by omega:k≠j)];exact D j ag u
def Mf:∀{l k j o},l[j]?=aa o->(k+j,o)∈number k l:=by
 intro l;induction l with
 | nil=>intro k j o h;cases h
 | cons p l b =>
   intro k j o h;cases j with
   | zero=>obtain rfl:=aF h;exact qT ..
   | succ j=>exact vK _ (by rw[show k+(j+1)=k+1+j by omega];exact b (by simpa using h))
def Mg{d}:∀{items},oF d items=false->∀{i o},(i,o)∈items->o.dst≠aa d:=λh _ _ b=>Xh h _ _ b
def OP(y:fi P cx)(f:nZ P B.G cx)(g:xa P B.G inl){Q}(q:∀i o,ops[i]?=aa o->(fp i).KD=false->UB cx nb o (fp i))
  (z:∀o∈ops.toList,∀k,o.dst=aa k->k<N):∀n b σ γ a w,ad1 cx nb bf inl ops fp (·=aQ) n b σ->dm B N γ σ a w ->
   (∀bz r w',dm B N bz aQ r w'->Ext B γ σ.mem w bz aQ.mem w'->Fr (number 0 ops.toList) a r->Q .normal r w')->wpAny P .any ops Q n b a w:=by
 intro n;induction n with
 | zero =>
   intro b σ γ a w h hs m;obtain⟨e,rfl⟩:=h;exact⟨e,m γ a w hs (Ext.refl _ _ _ _) λt _=>rfl⟩
 | succ n A =>
   intro b σ γ a w h hs m;refine⟨λC=>?_,λi D=>?_⟩
   .obtain rfl:=h.1 C;exact m γ a w hs (Ext.refl _ _ _ _) λt _=>rfl
   .obtain⟨o,bL,e,E,F,H⟩:=h.2 i D;have j:o∈ops.toList:=by
     have:=acX e;simpa using this
    have c:(i,o)∈number 0 ops.toList:=by
     have:=Mf (l:=ops.toList) (k:=0) (by simpa using e);simpa using this
    unfold wpOp;rw[e];dsimp only;have I:Region.wanted o (yielded ops a.tmps)=true:=by unfold Region.wanted;rw[E]
    rw[I];refine .inl (LZ y f g hs (z o j) (C3 (q i o e) F) λs v J K L=>?_);refine A _ bL s _ J H K λu M O R S T=>m u M O R (L.trans S) λt x=>?_;rw[T t x,gk (Mg x c)]
def dm.draw{a w}(h:dm B N γ σ a w) n:dm B N γ σ a { w with drawn:=n }/\Ext B γ σ.mem w γ σ.mem { w with drawn:=n }:=by
 obtain⟨m1,c⟩:=h.ok.far (w':={ w with drawn:=n }) (I':=γ.I) ⟨rfl,rfl,rfl,bX _,λ_ _=>rfl⟩ (λ_ _ k=>k) (λb o k=>h.ok.te b o k) (λb o k e=>absurd k e);exact⟨h.go c m1,c⟩
def RZ(c:P.follows .mixedOrders=true)(u:fi P cx)(g:nZ P B.G cx)(m:xa P B.G inl){Q id a w}
  (v:∀o∈ops.toList,∀k,o.dst=aa k->k<N) (y:(Ls cx nb bf inl (number 0 ops.toList) [] σ).run=aa aQ) (h:dm B N γ σ a w)
  (z:∀bz n w',dm B N bz aQ n w'->Ext B γ σ.mem w bz aQ.mem w'->Fr (number 0 ops.toList) a n->Q .normal n w'):(Code.region id ops true).wp P Q a w:=by
 refine wp_region_any c ?_;obtain⟨A,O,R,C⟩:=RY ops.toList 0 [] σ (λj o b=>by simpa using b) ud.nil y
 let fp:Nat->Fp:=λi=>(A[i]?.map (·.1)).getD ⟨[],[],true,af⟩
 obtain⟨r,_⟩:=C fp λj f b=>by simp[fp,b]
 have key:∀l k σ,agI cx nb bf inl ops fp k l σ aQ->∀j o,l[j]?=aa o->(fp<|k+j).KD=false->UB cx nb o (fp<|k+j):=by
  intro l;induction l with
  | nil=>intro k σ _ j o b;cases b
  | cons o l D =>
    intro k σ E j F b;obtain⟨S,H,I,T,U,bL,V,J⟩:=E;cases j with
    | zero=>obtain rfl:=aF b;exact H
    | succ j=>rw[show k+_=k+1+j by omega];exact D _ bL J j F (by simpa using b)
 have K:=ad3 (aQ:=aQ) ops.toList 0 (Array.replicate ops.size false) σ aS aS (λj b=>ag)
  (λj _ b=>by simp[b]) (λi o e q=>by
   rcases rR i ops.size with t|t<;>simp[t] at q) r
 obtain⟨L,M⟩:=h.draw _;refine OP u g m (λi o q=>by have:=key _ 0 σ r i o (by simpa using q);simpa using this) v _ _ σ γ a _ (by simpa using K) L λbz n w' s x f=>z bz n w' s (M.trans x) f
end
end Go.Ge
