import Derived.Test.YtgklgliokhbcnaaGreatDoorGeE
import Derived.Tactics
set_option linter.unusedVariables false
set_option linter.unusedSimpArgs false
set_option linter.unusedSectionVars false
set_option linter.defProp false
open Option renaming some->aa,none->af
namespace Go.Ge
open RowKit
def oI.shrink{mem mem'}(i:∀b c,mem b=aa c->mem' b=aa { c with lk:=true }){b aR j K}(k:oI mem b aR j)(h:oI mem' b aR K)
  (l:∀c,K { c with lk:=true }->K c):oI mem b aR K:=by
 obtain⟨c,f,m,_⟩:=k;obtain⟨n,g,q,o⟩:=h;rw[i b c f] at g;obtain rfl:=aI g;exact⟨c,f,m,λe=>l c (o e)⟩
def cQ.shrink{γ bF mem mem' w w'}(g:∀b G,mem b=aa G->mem' b=aa { G with lk:=true }):∀{v m us vs},
  cQ γ mem w v m us->cQ bF mem' w' v m vs->cQ bF mem w' v m vs:=by
 intro v;induction v with|undef=>intro m us vs _ r;cases m<;>exact r|data t x=>intro m us vs _ r;cases m<;>exact r|qw=>intro m us vs _ r;cases m<;>exact r|vN=>intro m us vs _ r;cases m<;>exact r|cell t x=>intro m us vs _ r;cases m<;>exact r|nl=>intro m us vs _ r;cases m<;>exact r|vO=>intro m us vs _ r;cases m<;>exact r|za b aR =>(intro m us vs c r;cases m with|many=>exact r|cells=>exact⟨r.1,c.2.shrink g r.2 λ_ k=>k⟩|val=>exact⟨r.1,c.2.shrink g r.2 λ_ k=>k⟩)|ptr b aR p =>(intro m us vs c r;cases m with|many=>exact r|cells=>exact⟨r.1,c.2.shrink g r.2 λ_ k=>k⟩|val=>exact⟨r.1,c.2.shrink g r.2 λ_ k=>k⟩)|whole b aR =>(intro m us vs c r;cases m with|many=>exact r|cells=>exact⟨r.1,c.2.shrink g r.2 λ_ k=>k⟩|val=>exact⟨r.1,c.2.shrink g r.2 λ_ k=>k⟩)|part b aR lo n =>(intro m us vs c r;cases m with|many=>exact r|cells=>exact⟨r.1,c.2.shrink g r.2 λ_ k=>k⟩|val=>exact⟨r.1,c.2.shrink g r.2 λ_ k=>k⟩)|win b aR q e k lo n =>(intro m us vs c r;cases m with|many=>exact r|cells=>exact⟨r.1,c.2.shrink g r.2 λ_ k=>k⟩|val=>exact⟨r.1,c.2.shrink g r.2 λ_ k=>k⟩)|fn f H =>(intro m us vs c r;cases m with|many=>exact r|cells=>(obtain⟨_,_,_,s⟩:=c;obtain⟨h,j,l,F⟩:=r;exact⟨h,j,l,λi b aR z=>(s i b aR z).shrink g (F i b aR z) λ_ k=>k⟩)|val=>obtain⟨_,_,_,s⟩:=c;obtain⟨h,j,l,F⟩:=r;exact⟨h,j,l,λi b aR z=>(s i b aR z).shrink g (F i b aR z) λ_ k=>k⟩)|mix a b o y =>(intro m us vs c r;cases m with|cells=>(obtain⟨_,_,_,A,C⟩:=c;obtain⟨D,E,c,j,l⟩:=r;exact⟨D,E,c,o A j,y C l⟩)|val=>(obtain⟨_,_,_,A,C⟩:=c;obtain⟨D,E,c,j,l⟩:=r;exact⟨D,E,c,o A j,y C l⟩)|many=>obtain⟨_,_,_,A,C⟩:=c;obtain⟨D,E,c,j,l⟩:=r;exact⟨D,E,c,o A j,y C l⟩)|Ct u I =>intro m us vs c r;cases m with|val=>(obtain⟨_,_,s⟩:=c;obtain⟨h,j,l⟩:=r;exact⟨h,j,I s l⟩)|cells=>exact r|many=>exact r
def bH.unlock{B γ bF mem mem' w w'}(h:bH B γ mem w)(q:∀b e,mem b=aa e->mem' b=aa { e with lk:=true })
  (m:bH B bF mem' w') (r:Ext B γ (λi=>match mem i with|some b=>aa { b with lk:=true }|none=>af) w bF mem' w'):bH B bF mem w'/\Ext B γ mem w bF mem w':=by
 have s:∀b e,mem b=aa e->bF.loc b=γ.loc b:=by intro b e f;obtain⟨v,k1,k2,k3⟩:=r.boxes b { e with lk:=true } (by simp[f]);rw[q b e f] at k1;obtain rfl:=aI k1;exact(k3 rfl).1
 have n:∀b,mem b≠af->mem' b≠none:=by intro b f;cases u:mem b with|none=>exact absurd u f|some e=>rw[q b e u];simp
 refine⟨?_,⟨r.below,r.I,r.sI,r.cells,λb e f=>⟨e,f,b0 _,λ_=>⟨s b e f,rfl,rfl⟩⟩⟩⟩;exact
  { vR:=m.vR
    base:=m.base
    boxes:=λb e f=>by
     have j:=h.boxes b e f;have o:=m.boxes b _ (q b e f);unfold eL at j o⊢;cases l:e.buf with
     | true=>rw[l] at o;exact o
     | false =>
       rw[l] at j o;obtain⟨_,_,_,_,_,_,_,_,_,x⟩:=j;obtain⟨g,cap,cur,tid,fr,k1,k2,k3,ae2,y⟩:=o;exact⟨g,cap,cur,tid,fr,k1,k2,k3,ae2,x.shrink q y⟩
    inj:=λb c g k z f A j o=>m.inj b c g k z (n b f) (n c A) j o
    fresh:=λb g k f j=>m.fresh b g k (n b f) j
    vQ:=m.vQ
    sep:=λb e g k t f j C=>by
     have:=m.sep b _ g k t (q b e f) j C;exact this }
def Ext.gU{B γ}{c:St}{w}:Ext B γ c.mem w γ c.gU.mem w where
 below:=xc.refl _ _
 I:=λ_ _ h=>h
 sI:=λ_ _ h=>.inl h
 cells:=λ_ _ _=>rfl
 boxes:=λb e f=>⟨{ e with lk:=true },by simp[St.gU,f],b0 _,λ_=>⟨rfl,rfl,rfl⟩⟩
def bH.gU{B γ}{j:St}{w}(h:bH B γ j.mem w):bH B γ j.gU.mem w:=by
 have inv:∀{b l},j.gU.mem b=aa l->∃e,j.mem b=aa e/\l={ e with lk:=true }:=by intro b l f;simp only[St.gU] at f;split at f;{rename_i e h0;exact⟨e,h0,(aI f).symm⟩};cases f
 have i:∀{b},j.gU.mem b≠af->j.mem b≠none:=by intro b f o;apply f;simp[St.gU,o]
 exact
  { vR:=h.vR
    base:=h.base
    boxes:=λb l f=>by obtain⟨e,h0,rfl⟩:=inv f;have:=(h.boxes b e h0).keep (Ext.gU (B:=B)) rfl (λ_ _ _=>rfl);exact this
    inj:=λb c g k q f r m s=>h.inj b c g k q (i f) (i r) m s
    fresh:=λb g k f m=>h.fresh b g k (i f) m
    vQ:=h.vQ
    sep:=λb l g k n f m t=>by
     obtain⟨e,h0,rfl⟩:=inv f;exact h.sep b e g k n h0 m t }
def dG.gU{B N γ σ a w}(h:dG B N γ σ a w):dG B N γ σ.gU a w where
 bj:=λt=>(h.bj t).ext (Ext.gU (B:=B))
 size:=h.size
 defers:=h.defers
 ok:=h.ok.gU
def G0{e f:St}(h:bY e.gU f):∀b c,e.mem b=aa c->f.mem b=aa { c with lk:=true }:=λb c g=>h b _ (by simp[St.gU,g]) rfl
end Go.Ge
namespace Go.Ge
open RowKit
inductive yk (all:Array Oper) (G:List (Nat×Bool)):List (Nat×Oper)->List Oper->Prop
 | nil:yk all G [] []
 | cons {i:Nat} {o o':Oper} {r:List (Nat×Oper)} {l:List Oper}:all[i]?=aa o->(o'=o\/∃g,o.guard=aa g/\g∈G/\o'={ o with guard:=af })->yk all G r l->yk all G ((i,o')::r) (o::l)
def VB{all G j want}:∀{items l inner},yk all G items l ->
  ∃b e,l=b++e/\yk all ((j,want)::G) (under j want inner items).1 b/\yk all G (under j want inner items).2 e:=by
 intro items l inner h;induction h generalizing inner with
 | nil=>exact⟨[],[],rfl,.nil,.nil⟩
 | @cons i o k r l n m C x =>
   unfold under;cases f:Bc k.guard j want with
   | true =>(obtain⟨b,e,q,s,t⟩:=x (inner:=i::inner);refine⟨o::b,e,by rw[q];rfl,.cons n (.inr ?_) s,t⟩;have D:k=o:=by rcases m with m|⟨g,y,z,u⟩;{exact m};rw[u] at f;cases f);subst D;unfold Bc at f;split at f;{(rename_i E A v;simp only[gO] at f;have F:=gP f.1;have H:A=want:=by simpa using f.2);subst F;subst H;exact⟨(E,A),v,rU ..,rfl⟩};cases f
   | false =>
     have both:∀c,∃b e,o::l=b++e /\
       yk all ((j,want)::G) (bif c then((i,k)::(under j want (i::inner) r).1,(under j want (i::inner) r).2) else([],(i,k)::r)).1 b /\yk all G (bif c then((i,k)::(under j want (i::inner) r).1,(under j want (i::inner) r).2) else([],(i,k)::r)).2 e:=by
      intro c;cases c with|true =>(obtain⟨b,e,q,s,t⟩:=x;exact⟨o::b,e,by rw[q];rfl,.cons n (m.imp id λ⟨g,y,z,u⟩=>⟨g,y,wZ _ z,u⟩) s,t⟩)|false=>exact⟨[],o::l,rfl,.nil,.cons n m C⟩
     apply both
def YE{d}:∀{items},pt d items=false->∀i o,(i,o)∈items->o.dst≠aa d:=by intro items;induction items with|nil=>intro _ i o h;cases h|cons p r c =>intro h i o b;simp only[pt,Sx] at h;rcases fA.1 b with b|b;{obtain⟨rfl,rfl⟩:=eX b;intro e;rw[e] at h;simp at h};exact c h.2 i o b
section
variable {P:Program} {B:CG} {N:Nat} {γ:Gh} {σ aV:St} {a:Act} {w w':World} {cx:Ctx} {nb:Nat} {bf:List Nat} {inl:Nat->List cw->St->Tree (cw×St)} {all:Array Oper}
def VC(c:Array Oper)(G:List (Nat×Bool))(a:Act)(b:List (Nat×Oper)):Prop :=∀g∈G,∃e,(c[g.1]?).bind (·.dst)=aa e/\a.tmps[e]?=aa (.bool g.2)/\pt e b=false
def VC.wanted{G items}(h:VC all G a items){o g}(b:o.guard=aa g)(c:g∈G):Region.wanted o (yielded all a.tmps)=true:=by obtain⟨i,e,f,_⟩:=h g c;unfold Region.wanted;rw[b];simp only[yielded,e,UK,f];simp
def Fr(b:List (Nat×Oper))(a c:Act):Prop:=∀t,pt t b=false->c.tmps[t]?=a.tmps[t]?
def gz{a:Act}{d:Option Nat}{v t}(h:d≠aa t):(a.put d v).tmps[t]?=a.tmps[t]?:=by cases d with|none=>rfl|some k =>have:k≠t:=λe=>h (by rw[e]);simp[Act.put,Array.getElem?_setIfInBounds_ne this]
def Ay{d i o r}(h:pt d ((i,o)::r)=false):o.dst≠aa d/\pt d r=false:=by simp only[pt,Sx] at h;refine⟨λe=>?_,h.2⟩;rw[e] at h;simp at h
def VD t:∀b,(σ.undef b).bj t=bif pt t b then .undef else σ.bj t:=by intro b;induction b with|nil=>rfl|cons p r c =>obtain⟨i,o⟩:=p;simp only[St.undef,pt];cases hd:o.dst with|none=>exact c|some k =>simp only[St.bu,St.put];cases f:Nat.beq k t with|true=>(obtain rfl:=gP f;simp)|false =>have:Nat.beq t k=false:=ja (λe=>by subst e;simp at f);rw[this];exact c
def sk:∀b,(σ.undef b).mem=σ.mem:=by intro b;induction b with|nil=>rfl|cons p r c =>obtain⟨i,o⟩:=p;simp only[St.undef];cases o.dst<;>exact c
def dG.undef(h:dG B N γ σ a w){items b}(c:Fr items a b)(f:b.tmps.size=N)(g:b.defers=[]):dG B N γ (σ.undef items) b w where
 bj:=λt=>by
  rw[VD,sk];cases i:pt t items with
  | true=>exact⟨_,rfl⟩
  | false =>(have:=c t i;have e:b.tmps.getD t Go.undef=a.tmps.getD t Go.undef:=by simp only[Yb,this]);rw[e];exact h.bj t
 size:=f
 defers:=g
 ok:=by rw[sk];exact h.ok
def G1{d:Option Nat}{k}(h:yielded all a.tmps k=af):yielded all (a.put d Go.undef).tmps k=none:=by unfold yielded at h⊢;cases c:(all[k]?).bind _ with|none=>rfl|some b =>rw[c] at h;simp at h⊢;by_cases e:d=aa b;{subst e;simp only[Act.put];rw[aja];simp;by_cases hs:b<a.tmps.size;{rw[aQ hs];rfl};rw[aK hs]};rw[gz e];exact h
def G2{i o}(h:all[i]?=aa o):yielded all (a.put o.dst Go.undef).tmps i=none:=by unfold yielded;rw[h];simp;cases hd:o.dst with|none=>rfl|some d =>simp only[UK,Act.put];rw[aja];simp;by_cases hs:d<a.tmps.size;{rw[aQ hs];rfl};rw[aK hs]
def YF{G}{j E:Nat}{want c Q}(T:(all[j]?).bind (·.dst)=aa E)(F:c≠want) :
  ∀{items l inner a},yk all G items l->a.tmps[E]?=aa (.bool c)->pt E (under j want inner items).1=false->(∀k∈inner,yielded all a.tmps k=af) ->∃u x,l=u++x/\u.length=(under j want inner items).1.length/\∀e,(∀q,Fr (under j want inner items).1 a q->q.tmps.size=a.tmps.size->q.defers=a.defers->wpList P all Q e q w) ->wpList P all Q (u++e) a w:=by
 intro items l inner a h;induction h generalizing inner a with
 | nil=>intro _ _ _;exact⟨[],[],rfl,rfl,λe s=>s a (λt _=>rfl) rfl rfl⟩
 | @cons i o n r l U v h3 V =>
   intro R S y;have one:∀H,H.dst=o.dst->Region.wanted o (yielded all a.tmps)=false->(under j want inner ((i,n)::r)).1=(i,H)::(under j want (i::inner) r).1 ->
     ∃u x,o::l=u++x/\u.length=(under j want inner ((i,n)::r)).1.length/\∀e,(∀q,Fr (under j want inner ((i,n)::r)).1 a q->q.tmps.size=a.tmps.size->q.defers=a.defers->wpList P all Q e q w) ->wpList P all Q (u++e) a w:=by
    intro H z W A;rw[A] at S⊢;obtain⟨C,I⟩:=Ay S;rw[z] at C;obtain⟨u,x,X,Y,Z⟩:=V (a:=a.put o.dst Go.undef) (by rw[gz C];exact R) I (λk s=>by rcases fA.1 s with rfl|s;{exact G2 U};exact G1 (y k s))
    refine⟨o::u,x,by rw[X];rfl,by simp[Y],λe s=>?_⟩;show wpList P all Q (o::_) a w
    unfold wpList;rw[W];refine Z e λq f1 f2 f3=>s q (λt ht=>?_) (f2.trans<|Vk _ _ _) (f3.trans<|put_defers _ _ _);obtain⟨D,J⟩:=Ay ht;rw[z] at D;rw[f1 t J,gz D]
   cases m:Bc n.guard j want with
   | true =>
     have K:n=o:=by rcases v with v|⟨g,k1,k2,L⟩;{exact v};rw[L] at m;cases m
     subst K;have f:n.guard=aa (j,want):=by
      unfold Bc at m;split at m
      .rename_i i' b' f;simp only[gO] at m;have h8:b'=want:=by simpa using m.2
       rw[f,(gP m.1),h8]
      .cases m
     refine one { n with guard:=af } rfl ?_ (by simp only[under,m,xZ]);unfold Region.wanted;rw[f];simp only[yielded,T,UK,R];cases c<;>cases want<;>first|rfl|exact absurd rfl F
   | false =>
     cases f:n.guard with
     | none =>
       have A:(under j want inner ((i,n)::r)).1=[]:=by
        rw[f] at m;simp only[under,f,m,Cp]
       rw[A];exact⟨[],o::l,rfl,rfl,λe s=>s a (λt _=>rfl) rfl rfl⟩
     | some g =>
       obtain⟨k,b⟩:=g;rw[f] at m;cases hn:inner.any (Nat.beq k) with
       | true =>
         have K:n=o:=by
          rcases v with v|⟨g,k1,k2,L⟩
          .exact v
          .rw[L] at f;cases f
         subst K;refine one n rfl ?_ (by simp only[under,f,m,hn,Cp,xZ]);obtain⟨k',M,O⟩:=JP.1 hn;obtain rfl:=gP O;unfold Region.wanted;rw[f];simp only[y k M];rfl
       | false =>
         have A:(under j want inner ((i,n)::r)).1=[]:=by simp only[under,f,m,hn,Cp]
         rw[A];exact⟨[],o::l,rfl,rfl,λe s=>s a (λt _=>rfl) rfl rfl⟩
end
end Go.Ge
namespace Go.Ge
open RowKit
section
variable {P:Program} {B:CG} {N:Nat} {γ:Gh} {σ aV:St} {a:Act} {w w':World} {cx:Ctx} {nb:Nat} {bf:List Nat} {inl:Nat->List cw->St->Tree (cw×St)} {all:Array Oper}
def M6 σ items:bY σ (σ.undef items):=bY.ajZ (sk items)
def G3(h:∀f i σ v aV,(inl f i σ).run=aa (v,aV)->bY σ aV):∀n b σ,bh σ (sP cx nb bf inl all n b σ):=by intro n;induction n with|zero=>intro b σ;exact bh.fail|succ n k =>intro b σ;cases b with|nil=>exact bh.ret (bY.refl _)|cons p r =>unfold sP;split;{exact bh.bind λbO l y g=>(CO h bO l).trans (k _ _ y g)};rename_i j e C;dsimp only;split;{exact bh.fail};rename_i u z;split;{rename_i c D E t m o;cases F:pt u (under j e [] _).1 with|true=>exact bh.fail|false =>split;{exact bh.fail};cases A:LD cx (under j e [] _).1 with|true =>(intro y g;obtain⟨cP,l,q⟩:=bind_some g;refine bY.trans ?_ (k _ _ y q);refine(bh.node ?_ ?_) cP l;{refine bh.bind λτ s=>?_;split;{exact bh.ret ((k _ _ τ s).trans<|bY.bu _ _ _)};exact bh.fail};split;{exact bh.ret ((M6 _ _).trans<|bY.bu _ _ _)};exact bh.fail)|false =>simp;split;{intro y g;rw[Tree.x4] at g;obtain⟨x,l,q⟩:=Co.1 g;exact((M6 _ _).trans<|bY.put _ _ _).trans (k _ _ y q)};exact bh.fail};exact bh.fail
def S5{mem t v x val}(h:toD t v=aa x)(b:cQ γ mem w v .val [val]){mem'}:cQ γ mem' w (.data t x) .val [val]:=by
 unfold toD at h;split at h
 .obtain⟨q,c⟩:=Ty.my h;subst q;subst c;exact b
 {split at h;{(obtain rfl:=aI h;obtain rfl:val=_:=by simpa [cQ] using b);exact⟨[.slice af 0 0],.inl ⟨⟨af,rfl⟩,rfl⟩,rfl⟩};cases h};cases h
def yk.length{G items l}(h:yk all G items l):items.length=l.length:=by induction h with|nil=>rfl|cons _ _ _ b=>simp[b]
def YG{g i b v K Q}(h:dG B N γ σ a w)(l:a.tmps[i]?=aa (.bool b)){want}(m:b=want)
  (e:Bd σ g i want=aa v) (n:∀y,cQ γ σ.mem w v .val [y]->K (a.put g.dst y) w):g.wp P a w K Q:=by
 unfold Bd at e;split at e
 .rename_i c x y j;cases k:Nat.beq c i with
  | false=>rw[k] at e;cases e
  | true =>(obtain rfl:=gP k;rw[k] at e;obtain rfl:=aI e;subst m;have o:a.eval (.tmp c)=.bool b:=by simp[Act.eval,l]);(unfold Oper.wp;have f:(execOp a.eval g).run P w=.ok (.value<|a.eval<|bif b then x else y) w:=by simp only[execOp,j,o];cases b<;>rfl);rw[f];exact n _ (h.dd _)
 .cases e
def VC.put{G i o r}(h:VC all G a ((i,o)::r)) v:VC all G (a.put o.dst v) r:=by intro g b;obtain⟨c,e,f,j⟩:=h g b;obtain⟨k,l⟩:=Ay j;exact⟨c,e,by rw[gz k];exact f,l⟩
def YH{d j want}:∀{items inner},pt d items=(pt d (under j want inner items).1||pt d (under j want inner items).2):=by
 intro items;induction items with
 | nil=>intro inner;rfl
 | cons p r b =>
   obtain⟨i,o⟩:=p;intro inner;unfold under;cases e:Bc o.guard j want with
   | true=>simp only[xZ,pt,U1];rw[b (inner:=i::inner)]
   | false =>
     have both:∀c,pt d ((i,o)::r)=(pt d (bif c then((i,o)::(under j want (i::inner) r).1,(under j want (i::inner) r).2) else([],(i,o)::r)).1 ||
       pt d (bif c then((i,o)::(under j want (i::inner) r).1,(under j want (i::inner) r).2) else([],(i,o)::r)).2):=by
      intro c;cases c with|true=>simp only[xZ,pt,U1];rw[b]|false=>simp[pt]
     apply both
def YI{p:Option Nat->Prop}{j want}:∀{items inner},(∀i o,(i,o)∈items->p o.dst) ->
  (∀i o,(i,o)∈(under j want inner items).1->p o.dst)/\(∀i o,(i,o)∈(under j want inner items).2->p o.dst):=by
 intro items;induction items with
 | nil=>intro inner h;exact⟨h,h⟩
 | cons q r l =>
   obtain⟨e,f⟩:=q;intro inner h;have m:=h e f (rU ..);have n:=λi o b=>h i o (wZ _ b);unfold under;cases s:Bc f.guard j want with
   | true =>obtain⟨g,k⟩:=l n;refine⟨λi o b=>?_,k⟩;rcases fA.1 b with b|b;{obtain⟨_,rfl⟩:=eX b;exact m};exact g i o b
   | false =>
     have both:∀c,(∀i o,(i,o)∈(bif c then((e,f)::(under j want (e::inner) r).1,(under j want (e::inner) r).2) else([],(e,f)::r)).1->p o.dst) /\
       (∀i o,(i,o)∈(bif c then((e,f)::(under j want (e::inner) r).1,(under j want (e::inner) r).2) else([],(e,f)::r)).2->p o.dst):=by
      intro c;cases c with|true =>(obtain⟨g,k⟩:=l n;refine⟨λi o b=>?_,k⟩;rcases fA.1 b with b|b;{obtain⟨_,rfl⟩:=eX b;exact m};exact g i o b)|false=>exact⟨λi o b=>(by cases b),h⟩
     apply both
def J5{t}{b:Bool}(h:dG B N γ σ a w)(f:σ.bj t=.data .bool b):a.tmps[t]?=aa (.bool b):=by have:=h.bj t;rw[f] at this;have e:=Bg this;rw[Yb] at e;cases c:a.tmps[t]? with|none=>rw[c] at e;cases e|some y=>rw[c] at e;exact congrArg aa e
def VE{α c want}{t e:Tree α}{y}(h:(Tree.node (bif want then c else nt c) t e).run=aa y):(c=want/\t.run=aa y)\/(c≠want/\c=(!want)/\e.run=aa y):=by
 have:=gV h;cases c<;>cases want
 .exact .inl ⟨rfl,this⟩
 .exact .inr ⟨aT,rfl,this⟩
 {exact .inr ⟨aT,rfl,this⟩};exact .inl ⟨rfl,this⟩
def PN(hc:ga P cx)(ab7:ql P B.G cx)(ahT:zf P B.G inl)(alL:∀f aj0 σ v aV,(inl f aj0 σ).run=aa (v,aV)->bY σ aV){Q} :
  ∀n {items l rest σ aV γ a w G},yk all G items l->VC all G a items->(∀i o,(i,o)∈items->∀k,o.dst=aa k->k<N) ->(sP cx nb bf inl all n items σ).run=aa aV->dG B N γ σ a w ->(∀bF a' w',dG B N bF aV a' w'->Ext B γ σ.mem w bF aV.mem w'->Fr items a a'->wpList P all Q rest a' w')->wpList P all Q (l++rest) a w:=by
 intro n;induction n with
 | zero=>intro items l rest σ aV γ a w G _ _ _ s;cases s
 | succ n ih =>
   intro items l rest σ aV γ a w G hit hG hd s h hK;cases hit with
   | nil =>obtain rfl:=aI s;exact hK γ a w h (Ext.refl _ _ _ _) (λt _=>rfl)
   | @cons i o o' r l h1 h2 h3 =>
     (have M:o'.dst=o.dst:=by rcases h2 with rfl|⟨_,_,_,rfl⟩<;>rfl);unfold sP at s;split at s
     .rename_i hg;obtain⟨bO,r1,r2⟩:=bind_some s;have hw:Region.wanted o (yielded all a.tmps)=true:=by rcases h2 with rfl|⟨g,k1,k2,k3⟩;{unfold Region.wanted;rw[hg]};exact hG.wanted k1 k2
      have r1':(sO cx nb bf inl o σ).run=aa bO:=by
       rcases h2 with rfl|⟨g,k1,k2,rfl⟩;{exact r1}
       .exact r1
      show wpList P all Q (o::_) a w
      unfold wpList;rw[hw];refine .inl (MX hc ab7 ahT h (λk W=>hd i o' (rU ..) k (by rw[M];exact W)) r1' λu v K O x1=>?_);have hG':=hG.put v;rw[M] at hG';refine ih h3 hG' (λi o hm=>hd i o (wZ _ hm)) r2 O λR a2 w2 s2 x2 f2=>hK R a2 w2 s2 (x1.trans x2) λt ht=>?_;obtain⟨t1,X⟩:=Ay ht;rw[f2 t X,gz (by rw[<-M];exact t1)]
     .rename_i j m hg;dsimp only at s;split at s
      .exact absurd s cp
      rename_i dj hdj;split at s
      case h_2=>exact absurd s cp
      rename_i c ip pk F alM VF;cases hh:pt dj (under j m [] _).1 with
      | true=>rw[hh] at s;exact absurd s cp
      | false =>
      rw[hh] at s;split at s
      .exact absurd s cp
      rename_i hpg;have S:=J5 h alM;obtain⟨l1,l2,e1,I1,I2⟩:=VB (yk.cons h1 h2 h3);obtain⟨d1,d2⟩:=YI (p:=λd=>∀k,d=aa k->k<N) hd;have T:∀d,pt d ((i,o')::r)=(pt d (under j m [] _).1||pt d (under j m [] _).2):=λd=>YH;have alN:=λq=>YF (P:=P) (w:=w) (Q:=Q) hdj q (yk.cons h1 h2 h3) S hh Cu;generalize hg1:(under j m [] _).1=Y at *;rw[VF] at I2 d2 T;cases I2 with
      | @cons _ z _ _ l2' p1 p2 p3 =>
      have H:pk.dst=z.dst:=by rcases p2 with rfl|⟨_,_,_,rfl⟩<;>rfl
      have anf:pk.op=z.op:=by rcases p2 with rfl|⟨_,_,_,rfl⟩<;>rfl
      rw[e1,xW];have C:∀{d},pt d ((i,o')::r)=false->pt d Y=false/\z.dst≠aa d/\pt d F=false:=by
       intro d Z;rw[T] at Z;simp at Z;obtain⟨q1,q2⟩:=Ay Z.2;exact⟨Z.1,by rw[<-H];exact q1,q2⟩
      have tail:∀u τ cP A K v b,dG B N u τ A K->Fr Y a A->c=b->Bd τ pk dj b=aa v ->
        (∀y,cQ u τ.mem K v .val [y]->∃R,dG B N R cP (A.put z.dst y) K/\Ext B γ σ.mem w R cP.mem K)->(sP cx nb bf inl all n F cP).run=aa aV ->
        wpList P all Q (z::l2'++rest) A K:=by
       intro u τ cP A K v b O E hcb D hy I;have hGp:VC all G A ((ip,pk)::F):=λg U=>by
        obtain⟨dj',k1,k2,k3⟩:=hG g U;obtain⟨q1,q2,q3⟩:=C k3;refine⟨dj',k1,by rw[E dj' q1];exact k2,?_⟩;simp only[pt,Sx];refine⟨?_,q3⟩;cases L:pk.dst with
        | none=>rfl
        | some k=>exact ja λe=>q2 (by rw[<-H,L,e])
       have hwp:Region.wanted z (yielded all A.tmps)=true:=by
        rcases p2 with rfl|⟨g,k1,k2,k3⟩
        .unfold Region.wanted;rw[hpg]
        .exact hGp.wanted k1 k2
       show wpList P all Q (z::_) A K
       unfold wpList;rw[hwp];have ang:Bd τ z dj b=aa v:=by rw[<-D];unfold Bd;rw[anf]
       refine .inl (YG O (by rw[E dj hh];exact S) hcb ang λy hyr=>?_);obtain⟨R,s2,x2⟩:=hy y hyr;have hGr:=hGp.put y;rw[H] at hGr;refine ih p3 hGr (λi o hm=>d2 i o (wZ _ hm)) I s2 λγ3 a3 w3 s3 x3 f3=>hK γ3 a3 w3 s3 (x2.trans x3) λt ht=>?_;obtain⟨q1,q2,q3⟩:=C ht;rw[f3 t q3,gz q2,E t q1]
      have V:∀(τ:St) d v,(τ.bu d v).mem=τ.mem:=λτ d v=>by cases d<;>rfl
      have L:=λk W=>d2 ip pk (rU ..) k (by rw[H];exact W);have hG1:c=m->VC all ((j,m)::G) a Y:=λq g U=>by
       rcases fA.1 U with rfl|U
       .exact⟨dj,hdj,by rw[<-q];exact S,hh⟩
       .obtain⟨dj',k1,k2,k3⟩:=hG g U;exact⟨dj',k1,k2,(C k3).1⟩
      have lp:c≠m->(∀A,Fr Y a A->A.tmps.size=a.tmps.size->A.defers=a.defers->wpList P all Q (z::l2'++rest) A w)->wpList P all Q (l1++(z::l2'++rest)) a w:=by
       intro q W;obtain⟨m1,m2,q1,q2,q3⟩:=alN q;rw[e1] at q1;obtain⟨rfl,rfl⟩:=List.append_inj q1 (by rw[q2,I1.length]);exact q3 _ W
      cases Vw:LD cx Y with
      | true =>
        rw[Vw] at s;obtain⟨cP,hn,I⟩:=bind_some s;rcases VE hn with ⟨q,hn⟩|⟨q,hcn,hn⟩
        .obtain⟨τ,t1,X⟩:=bind_some hn;split at X
         .rename_i v D;obtain rfl:=aI X;refine ih I1 (hG1 q) d1 t1 h λu A K O x1 E=>tail u τ _ A K v m O E q D (λy hy=>⟨u,?_,?_⟩) I
          .rw[H];exact O.ya L hy
          .rw[V];exact x1
         .exact absurd X cp
        .split at hn
         .rename_i v D;obtain rfl:=aI hn;refine lp q λA E f2 f3=>tail γ (σ.undef Y) _ A w v (!m) (h.undef E (f2.trans h.size)<|f3.trans h.defers) E hcn D (λy hy=>⟨γ,?_,?_⟩) I
          .rw[H];exact(h.undef E (f2.trans h.size)<|f3.trans h.defers).ya L hy
          .rw[V,sk];apply Ext.refl
         .exact absurd hn cp
      | false =>
        rw[Vw] at s;simp at s;split at s
        case h_2=>exact absurd s cp
        rename_i t dp hT hdp;rw[Tree.x4] at s;obtain⟨x,hn,I⟩:=Co.1 s;have J:z.dst=aa dp:=by rw[<-H];exact hdp
        rcases VE hn with ⟨q,hn⟩|⟨q,hcn,hn⟩
        .obtain⟨τ,t1,X⟩:=bind_some hn;split at X
         .rename_i x' D;obtain rfl:=aI X;obtain⟨v,hv1,hv2⟩:=Co.1 D;refine ih I1 (hG1 q) d1 t1 h.gU λu A K O x1 E=>tail u τ _ A K v m O E q hv1 (λy hy=>?_) I;obtain⟨m1,m2⟩:=h.ok.unlock (G0<|G3 alL n Y _ τ t1) O.ok x1;refine⟨u,?_,?_⟩
          .rw[J];exact((h.go m2 m1).undef E O.size O.defers).ya (λk W=>L k (by rw[J];exact W)) (S5 hv2 hy)
          .show Ext B γ σ.mem w u (σ.undef Y).mem K
           rw[sk];exact m2
         .exact absurd X cp
        .split at hn
         .rename_i x' D;obtain rfl:=aI hn;obtain⟨v,hv1,hv2⟩:=Co.1 D;refine lp q λA E f2 f3=>tail γ _ _ A w v _ (h.undef E (f2.trans h.size)<|f3.trans h.defers) E hcn hv1 (λy hy=>⟨γ,?_,?_⟩) I
          .rw[J];exact(h.undef E (f2.trans h.size)<|f3.trans h.defers).ya (λk W=>L k (by rw[J];exact W)) (S5 hv2 hy)
          .show Ext B γ σ.mem w γ (σ.undef Y).mem w
           rw[sk];apply Ext.refl
         .exact absurd hn cp
end
end Go.Ge
namespace Go.Ge
open RowKit
section
variable {P:Program} {B:CG} {N:Nat} {γ:Gh} {σ aV:St} {a:Act} {w w':World} {cx:Ctx} {nb:Nat} {bf:List Nat} {inl:Nat->List cw->St->Tree (cw×St)} {ops:Array Oper}
def S6:∀{l:List Oper} {k:Nat},(∀j,l[j]?=ops[k+j]?)->yk ops [] (number k l) l:=by intro l;induction l with|nil=>intro k _;exact .nil|cons o l b =>intro k h;refine .cons ?_ (.inl rfl) (b λj=>by have:=h (j+1);simpa [Fo,U4 1 j] using this);have:=h 0;simpa using this.symm
def YJ:∀{l:List Oper} {k i:Nat} {o:Oper},(i,o)∈number k l->o∈l:=by intro l;induction l with|nil=>intro k i o h;cases h|cons p l b =>intro k i o h;rcases fA.1 h with h|h;{obtain⟨_,rfl⟩:=eX h;exact rU ..};exact wZ _ (b h)
def S7(n:ga P cx)(c:ql P B.G cx)(e:zf P B.G inl)(b:∀f g σ v aV,(inl f g σ).run=aa (v,aV)->bY σ aV){Q:Exit->Act->World->Prop}{id:Nat}
  (q:∀o∈ops.toList,∀k,o.dst=aa k->k<N) (r:(Ms cx nb bf inl ops σ).run=aa aV) (h:dG B N γ σ a w) (t:∀bF m w',dG B N bF aV m w'->Ext B γ σ.mem w bF aV.mem w'->Fr (number 0 ops.toList) a m->Q .normal m w'):(Code.region id ops false).wp P Q a w:=by
 refine wp_region_list ?_;have:=PN (all:=ops) (Q:=Q) (rest:=[]) n c e b _ (S6 (l:=ops.toList) (k:=0) λj=>aT) Cu (λi o u=>q o (YJ u)) r h (λbF m w' s x f=>wpList_nil (t bF m w' s x f))
 simpa using this
end
end Go.Ge
namespace Go.Ge
open RowKit
def xf(p:Nat->Prop)(e c:St):Prop:=∀b,c.mem b=e.mem b\/(c.mem b≠af/\p b)
section
variable {p:Nat->Prop} {σ τ ρ:St}
def xf.refl σ:xf p σ σ:=λ_=>.inl rfl
def xf.trans(h:xf p σ τ)(k:xf p τ ρ):xf p σ ρ:=λb=>by
 rcases k b with c|c
 {rcases h b with e|⟨e,f⟩;{exact .inl (c.trans e)};exact .inr ⟨by rw[c];exact e,f⟩};exact .inr c
def xf.bu σ d v:xf p σ (σ.bu d v):=by cases d<;>exact λ_=>.inl rfl
def xf.put σ d v:xf p σ (σ.put d v):=λ_=>.inl rfl
def xf.cD{b bx}(h:p b):xf p σ (σ.cD b bx):=λc=>by
 by_cases e:c=b
 {subst e;exact .inr ⟨by simp[St.cD],h⟩};exact .inl (by rw[yc,aZ _ e])
end
def cq(p:Nat->Prop)(b:St)(T:Tree St):Prop:=∀y,T.run=aa y->xf p b y
section
variable {p:Nat->Prop} {σ:St}
def cq.fail:cq p σ .fail:=λy h=>by cases h
def cq.ret{aV}(h:xf p σ aV):cq p σ (.ret aV):=λy b=>by obtain rfl:=aI b;exact h
def cq.bif{c t}(h:cq p σ t):cq p σ (bif c then t else .fail):=λy b=>h y (aA b).2
def cq.jU{c t}(h:cq p σ t):cq p σ (.jU c t):=λy b=>h y (cX b).2
def cq.look{T}{o:Option T}{k}(h:∀x,cq p σ (k x)):cq p σ (.look o k):=λy b=>by obtain⟨x,_,c⟩:=ck b;exact h x y c
def cq.node{c t e}(h:cq p σ t)(k:cq p σ e):cq p σ (.node c t e):=λy b=>by have:=gV b;cases c with|true=>exact h y this|false=>exact k y this
def cq.bind{α}{t:Tree α}{f}(h:∀x,t.run=aa x->cq p σ (f x)):cq p σ (t.bind f):=λy b=>by obtain⟨x,c,e⟩:=bind_some b;exact h x c y e
def cq.bB{b val tid buf d}{v:Nat->cw}(h:p b):cq p σ (σ.bB b val tid buf λc σ=>.ret (σ.put d<|v c)):=λy e=>by obtain⟨c,g,f⟩:=oN e;obtain rfl:=aI f;exact(xf.cD h).trans (xf.put _ _ _)
def M7{σ aV b}(g:∀b,σ.mem b≠af->p b)(h:freeze σ b=aa aV):xf p σ aV:=by
 unfold freeze at h;split at h
 {rename_i f i;cases c:f.ro with|true=>simp only[c,xZ,Mg] at h;rw[<-h];apply xf.refl|false =>cases e:f.lk with|true=>simp[c,e] at h|false =>simp only[c,e,Cp,Mg] at h;rw[<-h];exact xf.cD (g b<|by rw[i];simp)};cases h
def ID(p:Nat->Prop)(e c:St):Prop:=(∀b,e.mem b≠af->p b)->xf p e c/\∀b,c.mem b≠af->p b
def ID.refl σ:ID p σ σ:=λh=>⟨xf.refl _,h⟩
def ID.trans{σ τ ρ}(h:ID p σ τ)(k:ID p τ ρ):ID p σ ρ:=λb=>by obtain⟨c,e⟩:=h b;obtain⟨f,g⟩:=k e;exact⟨c.trans f,g⟩
def ID.of{σ aV}(h:(∀b,σ.mem b≠af->p b)->xf p σ aV):ID p σ aV:=λc=>by
 refine⟨h c,λb e=>?_⟩;rcases h c b with k|k
 {exact c b (by rw[<-k];exact e)};exact k.2
def VG:∀{v σ aV},jI σ v=aa aV->ID p σ aV:=by intro v;induction v with|mix p q c e =>(intro σ aV h;obtain⟨bO,g,i⟩:=zd h;exact(c g).trans (e i))|whole b aR=>intro σ aV h;exact ID.of λf=>M7 f h|part b aR lo n=>intro σ aV h;exact ID.of λf=>M7 f h|_=>intro σ aV h;obtain rfl:=aI h;apply ID.refl
def Az{t x v σ aV}(h:CA σ t v=aa (x,aV)):ID p σ aV:=by
 unfold CA at h;split at h
 {split at h;{obtain⟨_,rfl⟩:=eX (aI h);apply ID.refl};cases h};split at h;{rename_i y bO c b;obtain⟨_,rfl⟩:=eX (aI h);exact VG b};cases h
def CP:∀{A x vs σ aV},gT σ A vs=aa (x,aV)->ID p σ aV:=by intro A;induction A with|pair t r e c =>(intro x vs σ aV b;cases vs with|nil=>cases b|cons v vs =>simp only[gT] at b;split at b;{rename_i p bO f;split at b;{rename_i q cP g;obtain⟨_,rfl⟩:=eX (aI b);exact(Az f).trans (c g)};cases b};cases b)|unit =>(intro x vs σ aV b;cases vs with|nil=>(obtain⟨_,rfl⟩:=eX (aI b);apply ID.refl)|cons v vs=>cases b)|_=>intro x vs σ aV b;cases vs<;>cases b
def M8{t}:∀{parts x b σ aV},iY σ t x parts=aa (b,aV)->ID p σ aV:=by intro parts;induction parts with|nil=>(intro x b σ aV h;obtain⟨_,rfl⟩:=eX (aI h);apply ID.refl)|cons p r c =>intro x b σ aV h;simp only[iY] at h;split at h;{split at h;{rename_i e;split at h;{exact(Az e).trans (c h)};cases h};cases h};cases h
def S8{bf t parts v σ aV}(h:qy bf σ t parts=aa (v,aV)):ID p σ aV:=by unfold qy at h;cases b:dm bf 8600000&&parts.any (λp=>sN (dd σ p.2)) with|true=>rw[b] at h;simp only[xZ] at h;split at h<;>cases h;exact ID.refl _|false=>rw[b] at h;simp only[Cp] at h;split at h<;>cases h;exact M8 (by assumption)
def zU{e}:∀{parts l c σ aV},fT σ e l parts=aa (c,aV)->ID p σ aV:=by intro parts;induction parts with|nil=>(intro x i σ aV h;obtain⟨_,rfl⟩:=eX (aI h);apply ID.refl)|cons p r f =>obtain⟨k,o⟩:=p;intro l c σ aV h;simp only[fT] at h;split at h;{rename_i g;cases b:Nat.blt k l.length with|false=>rw[b] at h;cases h|true=>rw[b] at h;exact(Az g).trans (f h)};cases h
def J6{b aR k fit u σ aV}(e:(storeAt b aR k fit u σ).run=aa aV):ID p σ aV:=ID.of λl=>by
 unfold storeAt at e;split at e;case h_2=>exact absurd e cp
 rename_i o m;obtain⟨q,f⟩:=aA e;obtain⟨n,hn,g⟩:=bind_some f;obtain⟨j,h⟩:=aA g;obtain⟨c,hs,i⟩:=bind_some h;obtain rfl:=aI i;exact xf.cD (l b<|by rw[m];simp)
def VH{b aR l n u σ aV}(e:(u9 b aR l n u σ).run=aa aV):ID p σ aV:=ID.of λm=>by
 unfold u9 at e;split at e;case h_2=>exact absurd e cp
 rename_i s o;obtain⟨t,f⟩:=aA e;obtain⟨q,hn,g⟩:=bind_some f;obtain⟨k,h⟩:=aA g;obtain⟨c,hs,i⟩:=bind_some h;obtain⟨r,j⟩:=aA i;obtain rfl:=aI j;exact xf.cD (m b<|by rw[o];simp)
def PQ{cx bf ty x y σ aV}(e:(nH cx bf ty x y σ).run=aa aV):ID p σ aV:=by
 unfold nH at e;split at e;case h_2=>exact absurd e cp
 split at e;case h_2=>exact absurd e cp
 obtain⟨g,f⟩:=aA e;obtain⟨i,hn,c⟩:=bind_some f;split at c
 .rename_i u _;obtain⟨j,b⟩:=aA c;cases h:dm bf 8000000&&aeK u y with|true=>rw[h] at b;exact VH b|false=>
  rw[h] at b;split at b;{rename_i k;exact(Az k).trans (J6 b)};exact absurd b cp
 obtain⟨j,b⟩:=aA c;exact J6 b
def CQ{cx nb d ty s x σ aV}(g:∀k,d=aa k->p (nb+k))(h:∀b,σ.mem b≠af->p b)(c:(iZ cx nb d ty s x σ).run=aa aV):xf p σ aV:=by
 unfold iZ at c;split at c;case h_2=>exact absurd c cp
 split at c;case h_2=>exact absurd c cp
 split at c
 .obtain⟨i,e⟩:=cX c;exact cq.bB (g _ rfl) _ e
 .split at c;case h_2=>exact absurd c cp
  rename_i n l j o;obtain⟨m,f⟩:=xe c;obtain⟨i,e⟩:=cX f;obtain rfl:=aI e;exact(xf.cD<|h _<|by rw[j];simp).trans (xf.put _ _ _)
 exact absurd c cp
def YK{b val tid buf d}{v:Nat->cw}{σ aV}(h:p b)(e:(σ.bB b val tid buf λc σ=>.ret (σ.put d<|v c)).run=aa aV):xf p σ aV:=cq.bB h _ e
def PR{nb e d args σ aV}(f:∀k,d=aa k->p (nb+k))(g:∀b,σ.mem b≠af->p b)(c:(nL nb e d args σ).run=aa aV):xf p σ aV:=by
 unfold nL at c;split at c;case h_2=>cases c
 split at c;case h_2=>cases c
 rename_i h;obtain⟨_,c⟩:=aA c;obtain⟨_,c⟩:=cX c;exact((Az h) g).1.trans (YK (f _ rfl) c)
def VI{e A res spec d args σ aV}(i:∀b,σ.mem b≠af->p b)(c:(vb e A res spec d args σ).run=aa aV):xf p σ aV:=by
 unfold vb at c;split at c;case h_2=>cases c
 split at c;case h_2=>cases c
 rename_i x bO j;split at c;case h_2=>cases c
 rename_i b m q l g;obtain⟨r,_,c⟩:=ck c;obtain⟨n,_⟩:=vW g;obtain⟨h,o⟩:=(CP j) i;have key:∀f,xf p bO (bO.cD b f):=λf=>xf.cD (o b<|by rw[n];simp);cases res with|true =>(cases d with|none=>cases c|some k=>obtain rfl:=aI c;exact(h.trans<|key _).trans (xf.put _ _ _))|false =>cases d with|none=>(obtain⟨_,c⟩:=aA c;obtain rfl:=aI c;exact(h.trans<|key _).trans (xf.bu _ af _))|some k=>obtain⟨_,c⟩:=aA c;obtain rfl:=aI c;exact(h.trans<|key _).trans (xf.bu _ _ _)
end
def PT{p:Prop}(h:p:=by repeat' (first|exact cq.fail|exact cq.ret (xf.bu _ _ _)|exact cq.ret (xf.put _ _ _)|exact cq.bB (by assumption)|refine cq.bif ?_|refine cq.jU ?_|refine cq.look λ_=>?_|refine cq.node ?_ ?_|refine cq.bind λ_ _=>?_|split)):p:=h
section
variable {cx:Ctx} {nb:Nat} {bf:List Nat} {d:Option Nat} {σ:St} {p:Nat->Prop}
def S9{c a b}:cq p σ (qx d c a b σ):=by unfold qx;exact PT
def Ta{ty a}:cq p σ (na cx d ty a σ):=by unfold na;exact PT
def PU{ty x lo hi}:cq p σ (nI cx d ty x lo hi σ):=by unfold nI;exact PT
def ab8{b aR i}:∀{m k},cq p σ (Mr d b aR σ i m k):=by intro m;induction m with|zero=>exact cq.fail|succ m c=>exact cq.node (cq.ret<|xf.bu _ _ _) c
def zi{ty x i}:cq p σ (eO cx d ty x i σ):=by
 unfold eO;split
 case h_6=>split
           .exact cq.bif ab8
           .exact cq.fail
 all_goals exact PT
def PV{ty x i}:cq p σ (nJ cx d ty x i σ):=by
 unfold nJ;split
 {refine cq.bif ?_;split;{exact cq.bif (cq.ret<|xf.bu _ _ _)};exact cq.fail};exact zi
def PW{ty x i}:cq p σ (nK cx d ty x i σ):=by unfold nK;exact PT
def G4{s x k}:cq p σ (fu cx d s x k σ):=by unfold fu;exact PT
def CR{ty v}(b:∀k,d=aa k->p (nb+k)):cq p σ (kP cx nb bf d ty v σ):=by
 unfold kP;split
 .exact PT
 {split;{rename_i k e _;cases dm bf k with|true=>exact cq.bB (b _ rfl)|false=>exact cq.ret (xf.put _ _ _)};exact cq.ret (xf.bu _ _ _)};exact cq.ret (xf.bu _ _ _)
def K3{s t x}(hn:∀k,d=aa k->p (nb+k)):cq p σ (iK cx nb d s t x σ):=by
 unfold iK;split
 .exact PT
 .exact PT
 .split;{exact cq.jU (cq.bB<|hn _ rfl)};exact cq.fail
 {exact PT};exact PT
def YL{o ge}(L:sQ o σ=ge)(E:cls cx ge o≠3)(hn:cls cx ge o≠0->∀k,o.dst=aa k->p (nb+k))(C:cls cx ge o≠0->cls cx ge o≠1->∀b,σ.mem b≠af->p b):cq p σ (sO cx nb bf Ao o σ):=by
 unfold sO;split;case h_1 x h=>exact CR (hn<|by simp[cls,h])
 case h_2 x h=>exact CR (hn<|by simp[cls,h])
 case h_3=>exact S9
 case h_4 e h =>split;{(rename_i k t S H;have W:cls cx ge o≠0:=by cases t<;>simp[cls,h,H]);unfold xO;split;{exact absurd (by simp[cls,h,H]) E};exact cq.bB (hn W _<|by assumption)};{rename_i H;split;{rename_i F;exact absurd (by simp[cls,h,H,F]) E};rename_i F;exact cq.bif (cq.bB<|hn (by simp[cls,h,H,F]) _<|by assumption)};exact cq.fail
 case h_5 e x h =>unfold Gv;split;{exact cq.fail};{exact cq.fail};{split;{rename_i F;exact absurd (by simp[cls,h,F]) E};rename_i F;exact cq.bB (hn (by simp[cls,h,F]) _<|by assumption)};exact cq.fail
 case h_6 t ps h =>have j:=C (by simp[cls,h]) (by simp[cls,h]);split;{split;{rename_i v;exact cq.ret ((S8 v j).1.trans<|xf.bu _ _ _)};exact cq.fail};{split;{rename_i v;exact cq.ret ((zU v j).1.trans<|xf.bu _ _ _)};exact cq.fail};{exact PT};exact cq.fail
 case h_7 t n ps h =>have j:=C (by simp[cls,h]) (by simp[cls,h]);split;{split;{rename_i k I K;exact cq.bB (hn (by simp[cls,h]) k (FE I).1)};refine cq.bif ?_;split;{rename_i v;split;{rename_i k S;exact λy z=>(zU v j).1.trans (cq.bB (hn (by simp[cls,h]) k<|zh S) _ z)};exact cq.ret ((zU v j).1.trans<|xf.bu _ _ _)};exact cq.fail};{unfold DM;split;{exact cq.bif (cq.bB<|hn (by simp[cls,h]) _<|by assumption)};exact cq.fail};exact cq.fail
 case h_8=>exact Ta
 case h_9 t a x h =>have j:=C (by simp[cls,h]) (by simp[cls,h]);split;{exact λy z=>(PQ z j).1};exact cq.fail
 case h_10=>exact PT
 case h_11=>exact PT
 case h_12=>exact PT
 case h_13 s t x h=>exact K3 (hn<|by simp[cls,h])
 case h_14=>exact PT
 case h_15=>exact PU
 case h_16=>exact G4
 case h_17=>exact PT
 case h_18=>split
            .cases dm bf 5000000 with|true=>exact PV|false=>exact zi
            .exact cq.fail
 case h_19=>split
            .exact PW
            .exact cq.fail
 case h_20 t l c h =>
  split
  .exact cq.jU (cq.jU<|cq.bB<|hn (by simp[cls,h]) _<|by assumption)
  .exact cq.fail
 case h_21=>exact PT
 case h_22 c h =>
  unfold x7;split
  .rename_i b v;split
   .exact PT
   .have G:cls cx ge o≠0:=by simp[cls,h,v]
    have T:cls cx ge o≠1:=by simp[cls,h,v]
    split
    .exact λy z=>CQ (hn G) (C G T) z
    .exact λy z=>CQ (hn G) (C G T) z
    .exact cq.fail
   .exact absurd (by simp[cls,h,v]) E
   .exact absurd (by simp[cls,h,v]) E
   .exact PT
   .exact PT
   .exact cq.fail
  .rename_i f D;split
   .rename_i g U M;refine cq.bif ?_;have q:ge=aa g:=by rw[<-L];simp[sQ,h,D,M]
    unfold xa;split
    .rename_i e O;have key:cls cx ge o=2:=by simp[cls,h,D,q,zg O]
     have G:cls cx ge o≠0:=by rw[key];simp
     exact λy z=>PR (hn G) (C G<|by rw[key];simp) z
    .rename_i e A r s O;have key:cls cx ge o=2:=by simp[cls,h,D,q,zg O]
     exact λy z=>VI (C (by rw[key];simp)<|by rw[key];simp) z
    unfold zO;split
    .rename_i X i;split
     .split
      .exact cq.look λ_=>cq.ret (xf.bu _ _ _)
      .exact cq.fail
     .rename_i R;have key:cls cx ge o=2:=by
       unfold cls;simp only[h,D,q];split
       .rfl
       .rfl
       .simp[i,R]
      split
      .rename_i J;exact cq.look λ_=>cq.ret ((CP J<|C (by rw[key];simp)<|by rw[key];simp).1.trans<|xf.bu _ _ _)
      .exact cq.fail
    .rename_i i;split
     .rename_i s m;unfold DL;split
      .exact absurd (by simp[cls,h,D,q,i,m]) E
      .exact absurd (by simp[cls,h,D,q,i,m]) E
      .exact cq.fail
     .rename_i m;exact absurd (by simp[cls,h,D,q,i,m]) E
   .exact cq.fail
  .rename_i r V D;have key:cls cx ge o=2:=by simp[cls,h,D]
   unfold uE;split
   .split
    .rename_i J;exact cq.look λ_=>cq.ret ((CP J<|C (by rw[key];simp)<|by rw[key];simp).1.trans<|xf.bu _ _ _)
    .exact cq.fail
   .exact cq.fail
 case h_23 u x h =>
  have key:cls cx ge o=2:=by simp[cls,h]
  unfold uD;split
  .split
   .split
    .rename_i J;exact cq.ret ((Az J<|C (by rw[key];simp)<|by rw[key];simp).1.trans<|xf.bu _ _ _)
    .exact cq.fail
   .exact cq.fail
  .exact cq.fail
 case h_24=>exact cq.fail
end
end Go.Ge
namespace Go.Ge
open RowKit
def Le(c e:St):Prop:=∀b f,c.mem b=aa f->e.mem b=aa f
structure Rel (bO cP qp po:St):Prop where
 s1:qp.bj=bO.bj
 s2:po.bj=cP.bj
 m:∀b,po.mem b=match qp.mem b with|some x=>aa x|none=>cP.mem b
 nv:∀b,qp.mem b=af->bO.mem b=af
section
variable {bO cP qp po ρ1 ρ2:St}
def Rel.refl(h:Le bO cP):Rel bO cP bO cP where
 s1:=rfl
 s2:=rfl
 m:=λb=>by cases c:bO.mem b with|none=>rfl|some x=>exact h b x c
 nv:=λ_ h=>h
def Rel.le(h:Rel bO cP qp po):Le qp po:=λb e c=>by rw[h.m,c]
def Rel.trans(h:Rel bO cP qp po)(k:Rel qp po ρ1 ρ2):Rel bO cP ρ1 ρ2 where
 s1:=k.s1.trans h.s1
 s2:=k.s2.trans h.s2
 m:=λb=>by rw[k.m b];cases c:ρ1.mem b with|some x=>rfl|none=>rw[h.m b,k.nv b c]
 nv:=λb c=>h.nv b (k.nv b c)
def Rel.cD(f:Le bO cP){b bx}:Rel bO cP (bO.cD b bx) (cP.cD b bx) where
 s1:=rfl
 s2:=rfl
 m:=λc=>by
  by_cases e:c=b;{subst e;simp[St.cD]};rw[yc,yc,aZ _ e,aZ _ e];exact(Rel.refl f).m c
 nv:=λc g=>by by_cases e:c=b;{subst e;simp[St.cD] at g};rw[yc,aZ _ e] at g;exact g
def DQ{σ τ}(h:τ.bj=σ.bj) x:dd τ x=dd σ x:=by cases x<;>simp[dd,h]
def DR(h:Le bO cP){e v l}(c:jV e bO v=aa l):jV e cP v=aa l:=by unfold jV at c⊢;cases v with|whole b aR =>(simp only at c⊢;cases f:bO.mem b with|none=>rw[f] at c;cases c|some g=>rw[f] at c;rw[h b g f];exact c)|part b aR lo n =>(simp only at c⊢;cases f:bO.mem b with|none=>rw[f] at c;cases c|some g=>rw[f] at c;rw[h b g f];exact c)|data u y=>cases u<;>exact c|_=>exact c
def aaD(h:Le bO cP):∀{t v x},ui bO t v=aa x->ui cP t v=aa x:=by intro t;induction t with|slice e l=>intro v x c;exact DR h c|pair a b f g =>(intro v x c;cases v with|mix p q =>(obtain⟨y,z,i,j,rfl⟩:=GO c;exact QX (f i) (g j))|data u y=>exact c|_=>cases c)|alt u a r f k =>(intro v x c;cases v with|vO=>exact(sh c).2.1 _|_=>exact c)|_=>intro v x c;cases v<;>exact c
def sY(h:Le bO cP){b aR}(c:live bO b aR=true):live cP b aR=true:=by unfold live at c⊢;cases e:bO.mem b with|none=>rw[e] at c;cases c|some f=>rw[e] at c;rw[h b f e];exact c
def afc(h:Le bO cP){v n}(c:lenOf bO v=aa n):lenOf cP v=aa n:=by unfold lenOf at c⊢;cases v with|whole b aR =>(simp only at c⊢;cases e:bO.mem b with|none=>rw[e] at c;cases c|some f=>rw[e] at c;rw[h b f e];exact c)|part b aR lo g =>(simp only at c⊢;cases hv:live bO b aR with|false=>rw[hv] at c;cases c|true=>rw[hv] at c;rw[sY h hv];exact c)|data u y=>cases u<;>exact c|_=>exact c
def ab9(h:Le bO cP){e v l}(b:zM e bO v=aa l):zM e cP v=aa l:=by
 unfold zM at b⊢;split at b
 {exact b};exact DR h b
def M9(h:Le bO cP){b aR r}(c:Ba bO b aR=aa r):Ba cP b aR=aa r:=by unfold Ba at c⊢;cases e:bO.mem b with|none=>rw[e] at c;cases c|some f=>rw[e] at c;rw[h b f e];exact c
def Q5(h:Le bO cP){b}(c:freeze bO b=aa qp):∃po,freeze cP b=aa po/\Rel bO cP qp po:=by unfold freeze at c⊢;cases g:bO.mem b with|none=>rw[g] at c;cases c|some i =>rw[g] at c;rw[h b i g];cases e:i.ro with|true =>simp only[e,xZ,Mg] at c⊢;subst c;exact⟨_,rfl,Rel.refl h⟩|false =>cases f:i.lk with|true=>simp[e,f] at c|false =>simp only[e,f,Cp,Mg] at c⊢;subst c;exact⟨_,rfl,Rel.cD h⟩
def YM:∀{v bO cP qp},Le bO cP->jI bO v=aa qp->∃po,jI cP v=aa po/\Rel bO cP qp po:=by intro v;induction v with|mix p q e f =>(intro bO cP qp h c;obtain⟨ρ1,i,j⟩:=zd c;obtain⟨ρ2,k,g⟩:=e h i;obtain⟨po,l,m⟩:=f g.le j;exact⟨po,by simp only[jI,k,l],g.trans m⟩)|whole b aR=>intro bO cP qp h c;exact Q5 h c|part b aR lo n=>intro bO cP qp h c;exact Q5 h c|_=>intro bO cP qp h c;obtain rfl:=aI c;exact⟨_,rfl,Rel.refl h⟩
def DT(h:Le bO cP){t x v}(b:CA bO t v=aa (x,qp)):∃po,CA cP t v=aa (x,po)/\Rel bO cP qp po:=by unfold CA at b⊢;cases v with|data u y =>simp only at b⊢;split at b;{rename_i z i;obtain⟨rfl,rfl⟩:=eX (aI b);exact⟨_,rfl,Rel.refl h⟩};cases b|_ =>simp only at b⊢;split at b;{rename_i y ρ1 c e;obtain⟨rfl,rfl⟩:=eX (aI b);obtain⟨po,f,g⟩:=YM h e;rw[aaD h c,f];exact⟨po,rfl,g⟩};cases b
def FG:∀{A x vs bO cP qp},Le bO cP->gT bO A vs=aa (x,qp)->∃po,gT cP A vs=aa (x,po)/\Rel bO cP qp po:=by intro A;induction A with|pair t r g c =>(intro x vs bO cP qp h b;cases vs with|nil=>cases b|cons v vs =>simp only[gT] at b⊢;split at b;{rename_i p ρ1 i;obtain⟨ρ2,j,e⟩:=DT h i;split at b;{rename_i q f k;obtain⟨rfl,rfl⟩:=eX (aI b);obtain⟨po,l,m⟩:=c e.le k;exact⟨po,by simp only[j,l],e.trans m⟩};cases b};cases b)|unit =>(intro x vs bO cP qp h b;cases vs with|nil=>(obtain⟨rfl,rfl⟩:=eX (aI b);exact⟨_,rfl,Rel.refl h⟩)|cons v vs=>cases b)|_=>intro x vs bO cP qp h b;cases vs<;>cases b
def PX{t}:∀{parts x e bO cP qp},Le bO cP->(∀o∈parts.map (·.2),dd bO o=dd cP o)->iY bO t x parts=aa (e,qp) ->
  ∃po,iY cP t x parts=aa (e,po)/\Rel bO cP qp po:=by
 intro parts;induction parts with|nil=>(intro x e bO cP qp h g b;obtain⟨rfl,rfl⟩:=eX (aI b);exact⟨_,rfl,Rel.refl h⟩)|cons p r j =>obtain⟨k,o⟩:=p;intro x e bO cP qp h g b;simp only[iY] at b⊢;split at b;{rename_i u v;split at b;{rename_i y ρ1 i;rw[(g o aT)] at i;obtain⟨ρ2,l,f⟩:=DT h i;split at b;{rename_i z m;obtain⟨po,n,q⟩:=j f.le (λs c=>by rw[DQ f.s1,DQ f.s2];exact g s (by simp at c⊢;exact .inr c)) b;exact⟨po,by simp only[l,m,n],f.trans q⟩};cases b};cases b};cases b
def G5{e}:∀{parts l i bO cP qp},Le bO cP->(∀o∈parts.map (·.2),dd bO o=dd cP o)->fT bO e l parts=aa (i,qp) ->
  ∃po,fT cP e l parts=aa (i,po)/\Rel bO cP qp po:=by
 intro parts;induction parts with|nil=>(intro x v bO cP qp h j b;obtain⟨rfl,rfl⟩:=eX (aI b);exact⟨_,rfl,Rel.refl h⟩)|cons p r n =>obtain⟨k,o⟩:=p;intro l i bO cP qp h j b;simp only[fT] at b⊢;split at b;{rename_i y ρ1 m;rw[(j o aT)] at m;obtain⟨ρ2,q,g⟩:=DT h m;cases c:Nat.blt k l.length with|false=>rw[c] at b;cases b|true =>rw[c] at b;obtain⟨po,s,t⟩:=n g.le (λu f=>by rw[DQ g.s1,DQ g.s2];exact j u (by simp at f⊢;exact .inr f)) b;exact⟨po,by simp only[q,xZ,s],g.trans t⟩};cases b
def lift(c:St)(d:Option Nat)(y:St):St :=
 { bj:=match d with|some d=>λt=>bif Nat.beq t d then y.bj d else c.bj t|none=>c.bj
   mem:=λb=>match y.mem b with|some x=>aa x|none=>c.mem b }
def aca(R:Rel bO cP qp po) d v:lift cP d (qp.bu d v)=po.bu d v:=by have c:=funext λb=>(R.m b).symm;cases d with|none=>simp only[lift,St.bu,c,<-R.s2]|some d =>simp only[lift,St.bu,St.put,<-R.s2];congr 1;funext t;cases e:Nat.beq t d with|true=>simp|false=>simp
def LT(b:St)(d:Option Nat)(c e:Tree St):Prop:=∀y,c.run=aa y->e.run=aa (lift b d y)
variable {d:Option Nat}
def LT.fail{T}:LT cP d .fail T:=λy h=>by cases h
def LT.ret(R:Rel bO cP qp po){v}:LT cP d (.ret<|qp.bu d v) (.ret<|po.bu d v):=λy h=>by obtain rfl:=aI h;rw[aca R];rfl
def LT.YN(R:Rel bO cP qp po){k v}:LT cP (aa k) (.ret<|qp.put k v) (.ret<|po.put k v):=LT.ret R
def LT.store(R:Rel bO cP qp po):LT cP af (.ret qp) (.ret po):=LT.ret (v:=.undef) R
def LT.bif{c t u}(h:LT cP d t u):LT cP d (bif c then t else .fail) (bif c then u else .fail):=by cases c<;>first|exact LT.fail|exact h
def LT.VJ{c b t u}(e:c=true->b=true)(h:LT cP d t u):LT cP d (bif c then t else .fail) (bif b then u else .fail):=by cases c with|false=>exact LT.fail|true=>rw[e rfl];exact h
def LT.jU{c t u}(h:LT cP d t u):LT cP d (.jU c t) (.jU c u):=λy b=>by obtain⟨rfl,e⟩:=cX b;exact h y e
def LT.look{T}{o:Option T}{k b}(h:∀x,LT cP d (k x) (b x)):LT cP d (.look o k) (.look o b):=λy c=>by obtain⟨x,rfl,e⟩:=ck c;exact h x y e
def LT.node{c t e b f}(h:LT cP d t b)(k:LT cP d e f):LT cP d (.node c t e) (.node c b f):=λy g=>by have:=gV g;cases c with|true=>exact h y this|false=>exact k y this
def LT.bind{α}{t:Tree α}{f g}(h:∀x,t.run=aa x->LT cP d (f x) (g x)):LT cP d (t.bind f) (t.bind g):=λy c=>by obtain⟨x,b,e⟩:=bind_some c;rw[Tree.run_bind,b];exact h x b y e
def LT.bB(e:Le bO cP){k b}(f:bO.mem b=cP.mem b){val tid buf}{v:Nat->cw} :
  LT cP (aa k) (bO.bB b val tid buf λc σ=>.ret (σ.put k<|v c)) (cP.bB b val tid buf λc σ=>.ret (σ.put k<|v c)):=by
 unfold St.bB;rw[<-f];cases g:bO.mem b with|none=>exact LT.YN (Rel.cD e)|some bx =>simp only;cases bx.lk with|true=>exact LT.fail|false=>exact LT.YN (Rel.cD e)
end
end Go.Ge
namespace Go.Ge
open RowKit
section
variable {bO cP:St} {d:Option Nat} {cx:Ctx} {nb:Nat} {bf:List Nat} {inl:Nat->List cw->St->Tree (cw×St)}
def EZ(b:Le bO cP)(c:∀k,d=aa k->bO.mem (nb+k)=cP.mem (nb+k)){ty v}:LT cP d (kP cx nb bf d ty v bO) (kP cx nb bf d ty v cP):=by have R:=Rel.refl b;unfold kP;cases v with|undef=>exact LT.bif (LT.ret R)|qw =>simp only;split;{rename_i k e _;cases dm bf k with|true=>exact LT.bB b (c k rfl)|false=>exact LT.YN R};exact LT.ret R|_=>exact LT.ret R
def VK(e:Le bO cP){c a b}:LT cP d (qx d c a b bO) (qx d c a b cP):=by
 have R:=Rel.refl e;unfold qx;split
 {split;{split;{exact LT.ret R};exact LT.fail};exact LT.node (LT.ret R) (LT.ret R)};exact LT.fail
def VL(c:Le bO cP){ty a}:LT cP d (na cx d ty a bO) (na cx d ty a cP):=by
 have R:=Rel.refl c;unfold na;cases a with
 | cell u x=>exact LT.bif (LT.ret R)
 | ptr b aR p =>
   ((try dsimp only);split<;>first|exact LT.fail|(rename_i e;rw[(c b) _ e];try dsimp only))
   exact LT.bif (LT.bind λx _=>LT.bif (LT.ret R))
 | _=>exact LT.fail
def Na{qp po}(R:Rel bO cP qp po){b aR p fit v}:LT cP af (storeAt b aR p fit v qp) (storeAt b aR p fit v po):=by
 unfold storeAt
 ((try dsimp only);split<;>first|exact LT.fail|(rename_i e;rw[(R.le b) _ e];try dsimp only))
 exact LT.bif (LT.bind λx _=>LT.bif (LT.bind λc _=>LT.store (R.trans<|Rel.cD R.le)))
def LT.ani{c t u b e}(h:LT cP d t u)(f:LT cP d b e):LT cP d (bif c then t else b) (bif c then u else e):=by cases c<;>first|exact f|exact h
def YO{qp po}(R:Rel bO cP qp po){b aR p n v}:LT cP af (u9 b aR p n v qp) (u9 b aR p n v po):=by
 unfold u9
 ((try dsimp only);split<;>first|exact LT.fail|(rename_i e;rw[(R.le b) _ e];try dsimp only))
 exact LT.bif (LT.bind λx _=>LT.bif (LT.bind λc _=>LT.bif (LT.store<|R.trans<|Rel.cD R.le)))
def Tb(c:Le bO cP){bf ty a v}:LT cP af (nH cx bf ty a v bO) (nH cx bf ty a v cP):=by
 have R:=Rel.refl c;unfold nH;cases a with
 | ptr b aR p =>
   ((try dsimp only);split<;>first|exact LT.fail|(rename_i e;rw[(c b) _ e];try dsimp only))
   refine LT.bif (LT.bind λf _=>?_);split
   .refine LT.bif (LT.ani (YO R) ?_);split;{rename_i y qp g;obtain⟨po,h,i⟩:=DT c g;rw[h];exact Na i}
    .exact LT.fail
   .exact LT.bif (Na R)
 | _=>exact LT.fail
def acb{n lo hi}(b:∀x∈lo.toList++hi.toList,dd bO x=dd cP x):bounds bO n lo hi=bounds cP n lo hi:=by unfold bounds;grind
def Tc(e:Le bO cP){ty x lo hi}(i:∀x∈lo.toList++hi.toList,dd bO x=dd cP x):LT cP d (nI cx d ty x lo hi bO) (nI cx d ty x lo hi cP):=by
 have R:=Rel.refl e;have b:∀n,bounds bO n lo hi=bounds cP n lo hi:=λn=>acb i;unfold nI;split
 .rename_i s _;rw[b]
  ((try dsimp only);split<;>first|exact LT.fail|skip)
  exact LT.jU (LT.ret R)
 .rw[b];refine LT.bif ?_
  ((try dsimp only);split<;>first|exact LT.fail|skip)
  exact LT.jU (LT.ret R)
 .rename_i u c f l n _
  ((try dsimp only);split<;>first|exact LT.fail|(rename_i g;rw[(e c) _ g];try dsimp only))
  refine LT.bif ?_;rw[b]
  ((try dsimp only);split<;>first|exact LT.fail|skip)
  exact LT.jU (LT.ret R)
 .rename_i u c f _
  ((try dsimp only);split<;>first|exact LT.fail|(rename_i g;rw[(e c) _ g];try dsimp only))
  refine LT.bif ?_;split
  .refine LT.bif ?_;split;{exact LT.ret R}
   rw[b]
   ((try dsimp only);split<;>first|exact LT.fail|skip)
   exact LT.jU (LT.ret R)
  exact LT.fail
 .rw[b];refine LT.VJ (λh=>?_) ?_;{simp at h⊢;exact⟨sY e h.1,h.2⟩}
  ((try dsimp only);split<;>first|exact LT.fail|skip)
  exact LT.jU (LT.ret R)
 .rename_i m u c f _
  ((try dsimp only);split<;>first|exact LT.fail|(rename_i g;rw[(e c) _ g];try dsimp only))
  refine LT.bif ?_;split
  .rw[b];refine LT.bif ?_
   ((try dsimp only);split<;>first|exact LT.fail|skip)
   exact LT.jU (LT.ret R)
  exact LT.fail
 exact LT.fail
def afd(c:Le bO cP){b aR i}:∀{m k},LT cP d (Mr d b aR bO i m k) (Mr d b aR cP i m k):=by intro m;induction m with|zero=>exact LT.fail|succ m e=>exact LT.node (LT.ret<|Rel.refl c) e
def AA(b:Le bO cP){ty x i}:LT cP d (eO cx d ty x i bO) (eO cx d ty x i cP):=by
 have R:=Rel.refl b;unfold eO;split
 .exact LT.bif (LT.look λ_=>LT.ret R)
 .exact LT.bif (LT.look λ_=>LT.ret R)
 ·((try dsimp only);split<;>first|exact LT.fail|(rename_i c;rw[((λr e=>M9 b e)) _ c];try dsimp only))
  exact LT.bif (LT.jU<|LT.ret R)
 ·((try dsimp only);split<;>first|exact LT.fail|(rename_i c;rw[((λr e=>M9 b e)) _ c];try dsimp only))
  exact LT.bif (LT.jU<|LT.ret R)
 .exact LT.VJ (sY b) (LT.jU<|LT.ret R)
 {split;{refine LT.VJ (λh=>?_) (afd b);simp at h⊢;exact⟨h.1,sY b h.2⟩};exact LT.fail};exact LT.fail
def Td(b:Le bO cP){ty x i}:LT cP d (nJ cx d ty x i bO) (nJ cx d ty x i cP):=by
 unfold nJ;split
 {refine LT.VJ (λh=>?_) ?_;{simp at h⊢;exact⟨h.1,sY b h.2⟩};split;{exact LT.bif (LT.ret<|Rel.refl b)};exact LT.fail};exact AA b
def Te(b:Le bO cP){ty x i}:LT cP d (nK cx d ty x i bO) (nK cx d ty x i cP):=by
 have R:=Rel.refl b;unfold nK;split
 .exact LT.look λ_=>LT.ret R
 {exact LT.bif (LT.look λ_=>LT.ret R)};exact LT.fail
def IE(b:Le bO cP){s x k}:LT cP d (fu cx d s x k bO) (fu cx d s x k cP):=by
 have R:=Rel.refl b;unfold fu;split
 .refine LT.bif ?_;split;{exact LT.ret R};exact LT.fail
 {refine LT.VJ (sY b) ?_;split;{split;{exact LT.ret R};exact LT.fail};split;{split;{exact LT.ret R};exact LT.fail};exact LT.fail};exact LT.fail
def Nb(b:Le bO cP)(c:∀k,d=aa k->bO.mem (nb+k)=cP.mem (nb+k)){s t x}:LT cP d (iK cx nb d s t x bO) (iK cx nb d s t x cP):=by
 have R:=Rel.refl b;unfold iK;split
 .exact LT.ret R
 .exact LT.ret R
 .split;{exact LT.jU (LT.bB b<|c _ rfl)};exact LT.fail
 ·((try dsimp only);split<;>first|exact LT.fail|(rename_i e;rw[((λr f=>DR b f)) _ e];try dsimp only))
  exact LT.ret R
 exact LT.fail
def E0(c:Le bO cP)(h:∀k,d=aa k->bO.mem (nb+k)=cP.mem (nb+k)){ty s x}:LT cP d (iZ cx nb d ty s x bO) (iZ cx nb d ty s x cP):=by
 unfold iZ;split
 .rename_i k e _
  ((try dsimp only);split<;>first|exact LT.fail|(rename_i f;rw[((λr (i:_=aa r)=>ab9 c i)) _ f];try dsimp only))
  split;{exact LT.jU (LT.bB c<|h _ rfl)};{rename_i b j;cases f:bO.mem b with|none=>exact LT.fail|some g =>rw[c b g f];cases m:jV e bO _ with|none=>exact LT.fail|some l =>rw[DR c m];simp only;cases (g.lk||!ajO cx ty g.tid) with|true=>exact LT.fail|false=>exact LT.jU (LT.YN<|Rel.cD c)};exact LT.fail
 exact LT.fail
def acd(c:Le bO cP){f args}(h:find cx.Vb f≠af):LT cP d (zO cx Ao d f args bO) (zO cx inl d f args cP):=by
 unfold zO;split
 .split
  .have key:∀{A vs x},jJ bO A vs=aa x->jJ cP A vs=aa x:=by intro A;induction A with|pair t r i e =>(intro vs x b;cases vs with|nil=>cases b|cons v vs =>simp only[jJ] at b⊢;split at b;{rename_i p q j g;rw[aaD c j,e g];exact b};cases b)|unit=>intro vs x b;cases vs<;>exact b|_=>intro vs x b;cases vs<;>cases b
   ((try dsimp only);split<;>first|exact LT.fail|(rename_i g;rw[((λr (k:_=aa r)=>key k)) _ g];try dsimp only))
   exact LT.look λ_=>LT.ret (Rel.refl c)
  split;{rename_i x qp l;obtain⟨po,m,n⟩:=FG c l;rw[m];exact LT.look λ_=>LT.ret n};exact LT.fail
 grind
def LT.aaE{qp po}(R:Rel bO cP qp po){k b}(e:bO.mem b=cP.mem b){val tid buf}{v:Nat->cw} :
  LT cP (aa k) (qp.bB b val tid buf λc σ=>.ret (σ.put k<|v c)) (po.bB b val tid buf λc σ=>.ret (σ.put k<|v c)):=by
 have f:qp.mem b=po.mem b:=by rw[R.m b];cases h:qp.mem b with|some x=>rfl|none=>rw[<-e,R.nv b h]
 unfold St.bB;rw[<-f];cases qp.mem b with|none=>exact LT.YN (R.trans<|Rel.cD R.le)|some g =>simp only;cases g.lk with|true=>exact LT.fail|false=>exact LT.YN (R.trans<|Rel.cD R.le)
def Tf(b:Le bO cP)(c:∀k,d=aa k->bO.mem (nb+k)=cP.mem (nb+k)){e args}:LT cP d (nL nb e d args bO) (nL nb e d args cP):=by
 unfold nL;split
 {split;{rename_i l qp f;obtain⟨po,g,h⟩:=DT b f;rw[g];exact LT.bif (LT.jU<|LT.aaE h<|c _ rfl)};exact LT.fail};exact LT.fail
def ace{qp po}(h:Le qp po){e v r}(c:Bb e qp v=aa r):Bb e po v=aa r:=by cases v with|part b aR lo n =>(simp only[Bb] at c⊢;cases f:qp.mem b with|none=>rw[f] at c;cases c|some g=>rw[f] at c;rw[h b g f];exact c)|whole b aR =>(simp only[Bb] at c⊢;cases f:qp.mem b with|none=>rw[f] at c;cases c|some g=>rw[f] at c;rw[h b g f];exact c)|_=>cases c
def YP(f:Le bO cP){e A res spec args}:LT cP d (vb e A res spec d args bO) (vb e A res spec d args cP):=by
 unfold vb;split
 {split;{rename_i x qp h;obtain⟨po,i,c⟩:=FG f h;rw[i];simp only;split;{rename_i b j m l g;rw[ace c.le g];refine LT.look λn=>?_;cases res with|true =>(cases d with|none=>exact LT.fail|some k=>exact LT.YN (c.trans<|Rel.cD c.le))|false=>cases d<;>exact LT.bif (LT.ret<|c.trans<|Rel.cD c.le)};exact LT.fail};exact LT.fail};exact LT.fail
def YQ(b:Le bO cP)(h:∀k,d=aa k->bO.mem (nb+k)=cP.mem (nb+k)){f args}(c:zN cx bf d f=af->find cx.Vb f≠af\/(find cx.Vb f=af/\∃e,find cx.QQ f=aa (.clone e)))(i:∀s,zN cx bf d f=aa s->(∃e,s=.clone e)\/∃e A r q,s=.own e A r q) :
  LT cP d (xa cx nb bf Ao d f args bO) (xa cx nb bf inl d f args cP):=by
 unfold xa;split
 .exact Tf b h
 .exact YP b
 .rename_i l m;have hn:zN cx bf d f=none:=by
   cases n:zN cx bf d f with
   | none=>rfl
   | some s =>
     simp_all
  rcases c hn with g|⟨g,e,j⟩
  .exact acd b g
  .unfold zO;rw[g,j];exact LT.fail
def VM{s f}(h:zN cx bf d f=aa s):(∃e,s=.clone e)\/∃e A r q,s=.own e A r q:=by unfold zN at h;grind
def acf:∀{ps k},(∀x∈ps.map (·.2),dd bO x=dd cP x)->CC bO k ps=CC cP k ps:=by intro ps;induction ps with|nil=>intro k _;rfl|cons p r b =>simp only[CC];grind
def J7{fs}:∀{ps v},(∀x∈ps.map (·.2),dd bO x=dd cP x)->nc bO fs v ps=nc cP fs v ps:=by intro ps;induction ps with|nil=>intro v _;rfl|cons p r b =>intro v h;simp only[nc];simp_all
def any_eq:∀{ps:List (Nat×Operand)},(∀x∈ps.map (·.2),dd bO x=dd cP x)->ps.any (λp=>sN (dd bO p.2))=ps.any (λp=>sN (dd cP p.2)):=by intro ps;induction ps with|nil=>intro _;rfl|cons p r b=>intro h;simp_all
def VN{t ps v qp}(c:Le bO cP)(b:∀x∈ps.map (·.2),dd bO x=dd cP x)(h:qy bf bO t ps=aa (v,qp)):∃po,qy bf cP t ps=aa (v,po)/\Rel bO cP qp po:=by unfold qy at h⊢;rw[any_eq b,J7 b] at h;cases f:dm bf 8600000&&ps.any (λp=>sN (dd cP p.2)) with|true =>(rw[f] at h;simp only[xZ] at h⊢;split at h;(case h_2=>cases h);rename_i e;obtain⟨rfl,rfl⟩:=eX (aI h);exact⟨cP,rfl,Rel.refl c⟩)|false =>rw[f] at h;simp only[Cp] at h⊢;split at h;(case h_2=>cases h);rename_i e;obtain⟨rfl,rfl⟩:=eX (aI h);obtain⟨po,g,i⟩:=PX c b e;exact⟨po,by rw[g],i⟩
def acg(C:Le bO cP){o:Oper}{ge:Option Nat}(hge:sQ o cP=ge)(I:cls cx ge o≠3)(j:∀x∈iL o.op,dd bO x=dd cP x)(F:∀k,o.dst=aa k->bO.mem (nb+k)=cP.mem (nb+k)) :
  LT cP o.dst (sO cx nb bf Ao o bO) (sO cx nb bf inl o cP):=by
 have R:=Rel.refl C;unfold sO;cases D:o.op with
 | move x=>simp only[D,iL] at j⊢;rw[j x aT];exact EZ C F
 | assign x=>simp only[D,iL] at j⊢;rw[j x aT];exact EZ C F
 | pick c a b=>simp only[D,iL] at j⊢;rw[j c aT,j a aT,j b aT];exact VK C
 | alloc e =>simp only;split;{rename_i k t E hT;rw[E];unfold xO;split;{exact absurd (by simp[cls,D,hT]) I};exact LT.bB C (F k E)};{rename_i k E hT;rw[E];split;{rename_i V;exact absurd (by simp[cls,D,hT,V]) I};exact LT.bif (LT.bB C<|F k E)};exact LT.fail
 | box e x =>simp only[D,iL] at j⊢;rw[j x aT];cases E:o.dst with|none=>exact LT.fail|some k =>(have V:find cx.w9 e=none:=by cases V:find cx.w9 e with|none=>rfl|some fs=>exact absurd (by simp[cls,D,V]) I);cases dd cP x<;>simp only[Gv,V]<;>first|exact LT.fail|exact LT.bB C (F k E)
 | build t ps =>simp only[D] at j⊢;split;{split;{rename_i L;obtain⟨po,M,K⟩:=VN C j L;rw[M];exact LT.ret K};exact LT.fail};{split;{rename_i L;obtain⟨po,M,K⟩:=G5 C j L;rw[M];exact LT.ret K};exact LT.fail};{split;{split;{rw[J7 j];split;{exact LT.ret R};{exact LT.ret R};exact LT.fail};exact LT.fail};exact LT.fail};exact LT.fail
 | buildSlice t n ps =>simp only[D] at j⊢;split;{split;{rename_i k W Z;have E:=(FE W).1;rw[E];exact LT.bB C (F k E)};refine LT.bif ?_;split;{rename_i L;obtain⟨po,M,K⟩:=G5 C j L;rw[M];split;{rename_i k E;rw[zh E];exact LT.aaE K (F k<|zh E)};exact LT.ret K};exact LT.fail};{unfold DM;rw[acf j];split;{rename_i k e v E _ _;rw[E];exact LT.bif (LT.bB C<|F _ E)};exact LT.fail};exact LT.fail
 | load t a=>simp only[D,iL] at j⊢;rw[j a aT];exact VL C
 | store t a x =>simp only[D,iL] at j⊢;rw[j a aT,j x aT];cases E:o.dst with|none=>exact Tb C|some k=>exact LT.fail
 | nilCheck x =>simp only[D,iL] at j⊢;rw[j x aT];cases dd cP x with|ptr b aR p=>exact LT.VJ (sY C) (LT.ret R)|cell t x=>exact LT.ret R|fn f c=>exact LT.ret R|_=>exact LT.fail
 | binOp op xt x y yt =>(simp only[D,iL] at j⊢;rw[j x aT,j y aT];intro z hz;obtain⟨v,X,h2⟩:=bind_some hz;have F:(aeI cP (find cx.T xt) (dm cx.EC xt) op (dd cP x)<|dd cP y).run=aa v:=by unfold aeI at X⊢;split at X;{obtain⟨G,I⟩:=aA X;simp only[gO] at G;rw[sY C G.1,G.2];exact I};{obtain⟨G,I⟩:=aA X;simp at G;rw[sY C G.1,G.2];exact I};exact X);rw[Tree.run_bind,F];exact LT.ret R z h2
 | unOp op t x=>simp only[D,iL] at j⊢;rw[j x aT];exact LT.bind λ_ _=>LT.ret R
 | convert s t x=>simp only[D,iL] at j⊢;rw[j x aT];exact Nb C F
 | makeFunc fn first H =>simp only[D] at j⊢;cases fn with|func f =>simp only;have:H.toList.map _=H.toList.map (dd cP):=aan λx hx=>j x (KG _ hx);rw[this];split;{exact LT.ret R};exact LT.fail|_=>exact LT.fail
 | slice t x lo hi m =>simp only[D,iL] at j⊢;cases m with|some m=>exact LT.fail|none =>simp only;rw[j x aT];exact Tc C λy hy=>j y (wZ _ hy)
 | fieldAddr s x k=>simp only[D,iL] at j⊢;rw[j x aT];exact IE C
 | field xt x k =>simp only[D,iL] at j⊢;rw[j x aT];split;{refine LT.bif ?_;split;{exact LT.ret R};exact LT.fail};exact LT.fail
 | indexAddr t x i =>simp only[D,iL] at j⊢;rw[j x aT,j i aT];split;{cases dm bf 5000000 with|true=>exact Td C|false=>exact AA C};exact LT.fail
 | index t x i =>simp only[D,iL] at j⊢;rw[j x aT,j i aT];split;{exact Te C};exact LT.fail
 | makeSlice t l c =>simp only[D,iL] at j⊢;rw[j l aT,j c aT];cases E:o.dst with|none=>exact LT.fail|some k =>split;{rename_i k' _ _ _ _ _ hk' _ _ _;obtain rfl:=aI hk';exact LT.jU (LT.jU<|LT.bB C<|F k E)};exact LT.fail
 | extract t k =>
   simp only[D,iL] at j⊢;rw[j t aT];split
   ·((try dsimp only);split<;>first|exact LT.fail|skip)
    exact LT.ret R
   exact LT.fail
 | call c =>
   simp only[D,iL] at j⊢;have S:c.args.toList.map _=c.args.toList.map (dd cP):=aan λx hx=>j x (KG _ hx);unfold x7;rw[S];cases G:c.callee with
   | builtin b =>
     simp only;split
     .rename_i x t _ _;cases aax _ x with
      | true =>
        ((try dsimp only);split<;>first|exact LT.fail|(rename_i hq;rw[((λr (hr:_=aa r)=>afc C hr)) _ hq];try dsimp only))
        exact LT.ret R
      | false =>
        simp;split
        .refine LT.VJ (λh=>?_) (LT.ret R);simp at h⊢;exact⟨sY C h.1,h.2⟩
        .exact LT.fail
     .split
      .exact E0 C F
      .exact E0 C F
      .exact LT.fail
     .exact absurd (by simp[cls,D,G]) I
     .exact absurd (by simp[cls,D,G]) I
     .exact LT.bind λ_ _=>LT.ret R
     .exact LT.bind λ_ _=>LT.ret R
     .exact LT.fail
   | value f =>
     simp only;rw[j f<|by rw[G];simp];split
     .rename_i g H j;have U:(H.all λb=>live bO b.1 b.2)=true->_=true:=λh=>by
       rw[w8] at h⊢;exact λb hm=>sY C (h b hm)
      refine LT.VJ U (YQ C F (λhq=>?_) λs hs=>VM hs);have Y:ge=aa g:=by rw[<-hge];simp[sQ,D,G,j]
      cases O:find cx.Vb g with
      | some c=>exact .inl aT
      | none =>
        refine .inr ⟨rfl,?_⟩;cases J:find cx.QQ g with
        | none=>exact absurd (by simp[cls,D,G,Y,O,J]) I
        | some s =>
          cases s with
          | clone e=>exact⟨e,rfl⟩
          | own e A r q=>simp[zN,J] at hq
          | _=>exact absurd (by simp[cls,D,G,Y,O,J]) I
     .exact LT.fail
   | invoke r m =>
     simp only;rw[j r<|by rw[G];simp];unfold uE;split
     .split
      .rename_i L;obtain⟨po,M,K⟩:=FG C L;rw[M];exact LT.look λ_=>LT.ret K
      .exact LT.fail
     .exact LT.fail
 | makeInterface u x =>
   simp only[D,iL] at j⊢;rw[j x aT];unfold uD;split
   .split
    .split
     .rename_i L;obtain⟨po,M,K⟩:=DT C L;rw[M];exact LT.ret K
     .exact LT.fail
    .exact LT.fail
   .exact LT.fail
 | _=>exact LT.fail
end
end Go.Ge
namespace Go.Ge
open RowKit
def qz{l t}:dm l t=true↔t∈l:=by induction l with|nil=>simp[dm]|cons i r b =>simp only[dm,Mk,fA,b];constructor;{rintro(h|h);{exact .inl (gP h)};exact .inr h};rintro(h|h);{subst h;exact .inl aT};exact .inr h
def kS{l t}:dm l t=false↔t∉l:=by rw[<-qz];simp
def YR{l}{t:Nat}(h:Operand.tmp t∈l):t∈tmpsOf l:=by induction l with|nil=>cases h|cons x r c =>rcases fA.1 h with b|b;{subst b;exact rU ..};clear h;have h:=b;cases x<;>simp only[tmpsOf];(case tmp k=>exact wZ _ (c h));all_goals exact c h
section
variable {cx:Ctx} {nb:Nat} {bf:List Nat} {inl:Nat->List cw->St->Tree (cw×St)} {σ aV τ:St}
structure VO (cx:Ctx) (nb:Nat) (o:Oper) (fp:Fp):Prop where
 own:∀k,o.dst=aa k->nb+k∈fp.rd
 sub:∀b∈fp.wr,b∈fp.rd
 w1:cls cx fp.fn o≠0->∀k,o.dst=aa k->nb+k∈fp.wr
 w2:cls cx fp.fn o≠0->cls cx fp.fn o≠1->∀b∈fp.rd,b∈fp.wr
 c3:cls cx fp.fn o≠3
def LM o σ (h:(CD cx nb o σ).LF=false):VO cx nb o (CD cx nb o σ):=by
 have c:∀k,o.dst=aa k->nb+k∈Go.Ge.own nb o:=λk e=>by simp[Go.Ge.own,e]
 unfold CD at h⊢;dsimp only at h⊢;split at h<;>rename_i g
 .exact⟨λk e=>Ew _ (c k e),λb f=>(nomatch f),λi=>absurd g i,λi=>absurd g i,by rw[g];decide⟩
 .exact⟨λk e=>Ew _ (c k e),λb f=>Ew _ f,λ_ k e=>c k e,λ_ j=>absurd g j,by rw[g];decide⟩
 {exact⟨λk e=>Ew _ (c k e),λb f=>f,λ_ k e=>Ew _ (c k e),λ_ _ b f=>f,by rw[g];decide⟩};cases h
def ahU{ts rd}:Le { (σ.only ts rd) with bj:=σ.bj } σ:=λb f c=>by simp only[St.only] at c;cases e:dm rd b with|true=>rw[e] at c;exact c|false=>rw[e] at c;cases c
def VP{ts rd}:Le (σ.only ts rd) σ:=λb c e=>ahU (ts:=ts) b c e
def VQ{l rd x}(b:x∈l):dd (σ.only (tmpsOf l) rd) x=dd σ x:=by cases x with|tmp t =>have:=qz.2 (YR b);simp only[dd,St.only,this,xZ]|_=>rfl
def ahV{a b}(h:aln a b=true):a=b:=by cases a<;>cases b<;>first|rfl|cases h|exact congrArg aa (gP h)
def PY o rd:sQ o (σ.only (tmpsOf<|iL o.op) rd)=sQ o σ:=by
 unfold sQ;split
 {rename_i c b;split;{rename_i x e;rw[VQ<|by rw[b];simp[iL,e]]};rfl};rfl
def DU{fp o}(f:fp.LF=false->VO cx nb o fp)(i:(jK cx nb bf inl fp o σ).run=aa aV):(sO cx nb bf inl o σ).run=aa aV:=by unfold jK at i;cases c:fp.LF with|true=>rw[c] at i;exact i|false =>have f:=f c;rw[c] at i;obtain⟨τ,g,u⟩:=bind_some i;obtain rfl:=aI u;obtain⟨e,g⟩:=aA g;have e:=ahV e;have v:=acg (inl:=inl) VP (by rw[<-e];exact(PY ..).symm) f.c3 (λx y=>VQ y) (λk n=>by simp only[St.only,qz.2 (f.own k n),xZ]) τ g;(rw[v];have hC:=YL e f.c3 (λq k n=>f.w1 q k n) (λq g b r=>by refine f.w2 q g b ?_;simp only[St.only] at r;cases j:dm fp.rd b with|true=>exact qz.1 j|false=>rw[j] at r;exact absurd rfl r) τ g);(have j:(λb=>match τ.mem b with|some x=>aa x|none=>σ.mem b)=λb=>bif dm fp.wr b then τ.mem b else σ.mem b:=by (funext b;have s:b∈fp.rd->(σ.only (tmpsOf<|iL o.op) fp.rd).mem b=σ.mem b:=λh=>by simp only[St.only,qz.2 h,xZ]);cases t:dm fp.wr b with|true =>(simp;cases l:τ.mem b with|some x=>rfl|none =>rw[<-s (f.sub b<|qz.1 t)];rcases hC b with k|k;{rw[<-k,l]};exact absurd l k.1)|false =>rcases hC b with k|k;{rw[k];cases l:(σ.only _ fp.rd).mem b with|none=>rfl|some x=>exact(VP b x l).symm};exact absurd k.2 (kS.1 t));exact congrArg (λm=>aa _) j
def DV{a b}(h:abW a b=true){x}(c:x∈a):x∉b:=by simp only[abW,w8,Ez] at h;exact kS.1 (h x c)
def apart_spec{x y f g}(h:apart x y f g=true):f.LF=false/\g.LF=false/\(∀b∈f.wr,b∉g.rd)/\(∀b∈g.wr,b∉f.rd) /\
  (∀d,x.dst=aa d->d∉tmpsOf (iL y.op))/\(∀d,y.dst=aa d->d∉tmpsOf (iL x.op))/\(∀d e,x.dst=aa d->y.dst=aa e->d≠e):=by
 simp only[apart,gO,Ez] at h;obtain⟨⟨⟨⟨⟨l,m⟩,n⟩,o⟩,c⟩,j⟩:=h;refine⟨l,m,λb k=>DV n k,λb k=>DV o k,λd i=>?_,λd i=>?_,λd e i r=>?_⟩
 .rw[i] at c;simp at c;exact kS.1 c.1
 .rw[i] at j;simp at j;exact kS.1 j
 .rw[i,r] at c;intro q;subst q;simp at c
def G6{d wr ts rd}(f:∀k,d=aa k->k∉ts)(g:∀b∈wr,b∉rd):(lay σ d wr τ).only ts rd=σ.only ts rd:=by
 unfold St.only lay;congr 1
 {funext t;cases c:dm ts t with|false=>rfl|true =>cases d with|none=>rfl|some k =>have:t≠k:=λe=>f k rfl (by rw[<-e];exact qz.1 c);simp[ja this]};funext b;cases c:dm rd b with|false=>rfl|true =>have:=λh=>g b h (qz.1 c);simp[kS.2 this]
def afe{h g f i bO cP}(j:apart h g f i=true)(l:∀b∈f.wr,b∈f.rd)(m:(jK cx nb bf inl f h σ).run=aa bO)(n:(jK cx nb bf inl i g bO).run=aa cP) :
  ∃c,(jK cx nb bf inl i g σ).run=aa c/\(jK cx nb bf inl f h c).run=aa cP:=by
 obtain⟨x,y,z,u,A,C,D⟩:=apart_spec j;unfold jK at m n⊢;simp only[x,y,Cp] at m n⊢;obtain⟨E,F,G⟩:=bind_some m;obtain rfl:=aI G;obtain⟨o,v,H⟩:=bind_some n;obtain rfl:=aI H;rw[G6 A z] at v;refine⟨lay σ g.dst i.wr o,by rw[Tree.run_bind,v];rfl,?_⟩;rw[G6 C u,Tree.run_bind,F];show aa _=aa _
 congr 1
 unfold lay
 congr 1
 .cases hi:h.dst with
  | none=>rfl
  | some k =>
    cases I:g.dst with
    | none=>rfl
    | some e =>
      have q:=D k e hi I;funext t;by_cases r:t=k
      .subst r;simp[ja q]
      .by_cases K:t=e
       .simp[ja r]
       .simp[ja r]
 .funext b;dsimp only;cases s:dm f.wr b with
  | false=>rfl
  | true =>
    have:=λJ=>u b J (l b<|qz.1 s);simp[kS.2 this]
inductive Reach (ops:Array Oper):Nat->Nat->Prop where
 | step {i:Nat} {o:Oper} {e:Edge} (h:ops[i]?=aa o) (he:e∈o.after) (hb:Region.binds .any e=true):Reach ops i e.on
 | more {i k:Nat} {o:Oper} {e:Edge} (h:ops[i]?=aa o) (he:e∈o.after) (hb:Region.binds .any e=true) (r:Reach ops e.on k):Reach ops i k
def Tg(c:Array Oper)(b:Array Bool):Prop:=∀i o e,b.getD i false=true->c[i]?=aa o->e∈o.after->Region.binds .any e=true->b.getD e.on false=true
def Reach.listed{ops listed}(f:Tg ops listed){i k}(h:Reach ops i k):listed.getD i false=true->listed.getD k false=true:=by induction h with|step h b c=>exact λe=>f _ _ _ e h b c|more h b c r g=>exact λe=>g (f _ _ _ e h b c)
def Reach.ready{ops listed}(g:Tg ops listed){i k}(h:Reach ops i k)(j:i∈Region.ready .any ops listed):listed.getD k false=true:=by obtain⟨_,o,f,b⟩:=mem_ready.1 j;cases h with|step h c e =>(obtain rfl:=aI (f.symm.trans h);exact b _ c e)|more h c e r =>obtain rfl:=aI (f.symm.trans h);exact r.listed g (b _ c e)
def Tg.list{ops listed}(r:Tg ops listed){i}(s:i∈Region.ready .any ops listed):Tg ops (listed.setIfInBounds i true):=by
 obtain⟨_,t,c,b⟩:=mem_ready.1 s;have up:∀k,listed.getD k false=true->(listed.setIfInBounds i true).getD k false=true:=by intro k g;by_cases e:i=k;{subst e;rcases ug i listed.size with f|f;{simp[f]};simp[UO f] at g};rw[getD_set_ne false e];exact g
 intro j o e h l m n;by_cases q:i=j
 {subst q;obtain rfl:=aI (c.symm.trans l);exact up _ (b e m n)};rw[getD_set_ne false q] at h;exact up _ (r j o e h l m n)
def VR{b:Array Bool}{i}(f:b.getD i true=false)(c:b.getD i false=true):False:=by
 rcases ug i b.size with e|e
 {simp[e] at f c;rw[f] at c;cases c};simp[UO e] at c
def vf(e:Array Oper)(c:List Vg):Prop:=∀k,∀b,Nat.testBit (maskAt c k) b=true->Reach e k b
def FH{ops done}(n:vf ops done){i o}(k:ops[i]?=aa o){b}(h:Nat.testBit (mask done o) b=true):Reach ops i b:=by
 have key:∀l,(∀e∈l,e∈o.after)->Nat.testBit (xP done l) b=true->Reach ops i b:=by intro l;induction l with|nil=>intro _ h;simp[xP] at h|cons e r m =>intro f h;simp only[xP] at h;cases g:Region.binds .any e with|false=>rw[g] at h;exact m (λj c=>f j (wZ _ c)) h|true =>rw[g] at h;simp at h;rcases h with (h|h)|h;{exact m (λj c=>f j (wZ _ c)) h};{(rw[Nat.testBit_two_pow] at h;have:e.on=b:=by simpa using h);subst this;exact .step k (f e<|rU ..) g};exact .more k (f e<|rU ..) g (n _ _ h)
 exact key _ (λe q=>by simpa using q) h
def vf.nil{ops}:vf ops []:=λk b h=>by simp[maskAt] at h
def vf.cons{ops done}(e:vf ops done){i o f}(g:ops[i]?=aa o):vf ops ((i,o,f,mask done o)::done):=by intro k b h;simp only[maskAt] at h;cases c:Nat.beq i k with|true =>(rw[c] at h;obtain rfl:=gP c;exact FH e g h)|false=>rw[c] at h;exact e k b h
def aff(c:Ctx)(e:Nat)(f:List Nat)(inl:Nat->List cw->St->Tree (cw×St))(b:Array Oper)(g:Nat->Fp)(Q:St->Prop):Nat->Array Bool->St->Prop|0,listed,σ=>Region.ready .any b listed=[]/\Q σ|n+1,listed,σ=>(Region.ready .any b listed=[]->Q σ) /\∀i∈Region.ready .any b listed,∃o aV,b[i]?=aa o/\o.guard=af/\(jK c e f inl (g i) o σ).run=aa aV/\aff c e f inl b g Q n (listed.setIfInBounds i true) aV
variable {ops:Array Oper} {fp:Nat->Fp} {Q:St->Prop}
def YS{i o}(E:ops[i]?=aa o)(u:o.guard=af)(v:∀b∈(fp i).wr,b∈(fp i).rd):∀n c σ bO,
  Tg ops c->(∀j s,ops[j]?=aa s->j≠i->c.getD j true=false->Reach ops j i\/apart o s (fp i) (fp j)=true) ->i∈Region.ready .any ops c->(jK cx nb bf inl (fp i) o σ).run=aa bO->aff cx nb bf inl ops fp Q n (c.setIfInBounds i true) bO->aff cx nb bf inl ops fp Q (n+1) c σ:=by
 intro n;induction n with|zero =>intro c σ bO f g q A H;refine⟨λh=>(by rw[h] at q;cases q),λj t=>?_⟩;by_cases e:j=i;{subst e;exact⟨o,bO,E,u,A,H⟩};have:=ready_mono t e;rw[H.1] at this;cases this|succ n I =>intro c σ bO f g q A H;refine⟨λh=>(by rw[h] at q;cases q),λj t=>?_⟩;by_cases e:j=i;{subst e;exact⟨o,bO,E,u,A,H⟩};(obtain⟨s,cP,x,C,J,K⟩:=H.2 j (ready_mono t e);obtain⟨l,L,F,G⟩:=mem_ready.1 t;have r:apart o s (fp i) (fp j)=true:=by rcases g j s x e l with M|r;{exact(VR (mem_ready.1 q).1<|M.ready f t).elim};exact r);obtain⟨m,O,R⟩:=afe r v A J;refine⟨s,m,x,C,O,I _ m cP (f.list t) (λk S T D y=>g k S T D ?_) (ready_mono q<|JR e) R ?_⟩;{by_cases z:j=k;{subst z;exact l};rw[getD_set_ne true z] at y;exact y};rw[ajh _ _ e];exact K
end
end Go.Ge
namespace Go.Ge
open RowKit
section
variable {P:Program} {B:CG} {N:Nat} {γ:Gh} {cx:Ctx} {nb:Nat} {bf:List Nat} {inl:Nat->List cw->St->Tree (cw×St)} {σ aV τ:St} {ops:Array Oper} {fp:Nat->Fp}
def ahW(f:Ctx)(g:Nat)(h:List Nat)(inl:Nat->List cw->St->Tree (cw×St))(c:Array Oper)(b:Nat->Fp):Nat->List Oper->St->St->Prop|_,[],σ,aV=>σ=aV|k,o::l,σ,aV=>o.guard=af/\((b k).LF=false->VO f g o (b k))/\((b k).LF=true->(b k).wr=[])/\(∀e∈o.after,Region.binds .any e=true->e.on<k) /\(∀j i,l[j]?=aa i->Reach c (k+1+j) k\/apart o i (b k) (b<|k+1+j)=true) /\∃bO,(jK f g h inl (b k) o σ).run=aa bO/\ahW f g h inl c b (k+1) l bO aV
def Nc{o f b k m mk ok r}(h:loose o f m ((k,ok,b,mk)::r)=true):(Nat.testBit m k=true\/apart ok o b f=true)/\loose o f m r=true:=by simp only[loose,gO,Mk] at h;exact h
def afg o σ (h:(CD cx nb o σ).LF=true):(CD cx nb o σ).wr=[]:=by
 unfold CD at h⊢;dsimp only at h⊢;split at h<;>first|cases h|skip
 rfl
def Th:∀l k c σ,(∀j o,l[j]?=aa o->ops[k+j]?=aa o)->vf ops c->(Mt cx nb bf inl (number k l) c σ).run=aa aV ->
  ∃n:List (Fp×Nat),n.length=l.length/\(∀j m b,n[j]?=aa m->Nat.testBit m.2 b=true->Reach ops (k+j) b) /\∀fp,(∀j f,n[j]?=aa f->fp (k+j)=f.1)->ahW cx nb bf inl ops fp k l σ aV/\∀j o f,l[j]?=aa o->n[j]?=aa f->loose o (fp<|k+j) f.2 c=true:=by
 intro l;induction l with|nil =>intro k c σ _ _ h;exact⟨[],rfl,λj m b h=>absurd h aT,λfp _=>⟨aI h,λj o f g=>absurd g aT⟩⟩|cons o l E =>intro k c σ x y h;simp only[number,Mt] at h;split at h;{cases h};rename_i F;obtain⟨u,G⟩:=aA h;obtain⟨bO,H,I⟩:=bind_some G;simp only[gO] at u;have z:=x 0 o rfl;obtain⟨n,A,C,J⟩:=E _ _ bO (λj v g=>by have:=x (j+1) v (by simpa using g);rw[<-this];congr 1;omega) (y.cons z) I;refine⟨(CD cx nb o σ,mask c o)::n,by simp[A],λj m b g i=>?_,λfp r=>?_⟩;{cases j with|zero=>(obtain rfl:=aI g;exact FH y z i)|succ j=>have:=C j m b (by simpa using g) i;rw[show k+_=k+1+j by omega];exact this};(have s:fp k=CD cx nb o σ:=r 0 _ rfl;obtain⟨K,D⟩:=J fp λj f g=>by have:=r (j+1) f (by simpa using g);rw[<-this];congr 1;omega);refine⟨⟨F,λi=>by rw[s] at i⊢;exact LM o σ i,λi=>by rw[s] at i⊢;exact afg o σ i,λe L i=>?_,λj M g=>?_,bO,by rw[s];exact H,K⟩,λj v f g t=>?_⟩;{have:=u.2;rw[<-Array.all_toList,w8] at this;have:=this e (by simpa using L);rw[i] at this;have:=KF (by simpa [Nat.blt] using this);omega};{obtain⟨f,t⟩:∃f,n[j]?=aa f:=⟨_,ft (by rw[A];exact(iQ.1 g).1)⟩;rcases(Nc<|D j M f g t).1 with q|q;{exact .inl (C j f k t q)};rw[s];exact .inr q};cases j with|zero =>(obtain rfl:=aI g;obtain rfl:=aI t;rw[Gr,s];exact u.1)|succ j =>have:=(Nc<|D j v f (by simpa using g)<|by simpa using t).2;rw[show k+_=k+1+j by omega];exact this
def afh:∀l k c σ,(∀j,l[j]?=ops[k+j]?)->c.size=ops.size->(∀j,j<k->j<ops.size->c.getD j false=true) ->
  (∀j,k<=j->j<ops.size->c.getD j true=false)->Tg ops c->ahW cx nb bf inl ops fp k l σ aV->aff cx nb bf inl ops fp (·=aV) l.length c σ:=by
 intro l;induction l with|nil =>(intro k c σ x hs y D f h;refine⟨?_,h⟩;cases I:Region.ready .any ops c with|nil=>rfl|cons i r =>obtain⟨E,o,H,_⟩:=mem_ready.1 (by rw[I];exact rU ..);have n:=(xU.1 H).1;rcases ug i k with v|v;{have:=y i v n;simp[hs,n] at this E;rw[this] at E;cases E};have:=x (i-k);rw[show k+_=i by omega,H] at this;cases this)|cons o l J =>(intro k c σ x hs y D f h;have v:ops[k]?=aa o:=by simpa using(x 0).symm);(have n:=(xU.1 v).1;obtain⟨K,L,F,M,O,bO,R,S⟩:=h;have g:=mem_ready.2 ⟨D k (b0 _) n,o,v,λe T z=>by have:=M e T z;exact y e.on this ah⟩);refine YS v K (λb z=>?_) l.length c σ bO f (λj U C V t=>?_) g R (J _ _ bO (λj=>?_) (by simp[hs]) (λj C u=>?_) (λj C u=>?_) (f.list g) S);{cases q:(fp k).LF with|true=>rw[F q] at z;cases z|false=>exact(L q).sub b z};{have s:=(xU.1 C).1;rcases ug j k with A|A;{exfalso;have:=y j A s;simp[hs,s] at this t;rw[this] at t;cases t};have G:=x (j-k);rw[show k+_=j by omega,C] at G;obtain⟨m,W⟩:∃m,j-k=m+1:=⟨j-k-1,ah⟩;rw[W] at G;have:=O m U (by simpa using G);rw[show k+1+m=j by omega] at this;exact this};{have:=x (j+1);rw[show k+1+j=k+(j+1) by omega,<-this];simp};{by_cases e:j=k;{subst e;simp[hs,n]};rw[getD_set_ne false<|JR e];exact y j ah u};rw[getD_set_ne true (by omega:k≠j)];exact D j ah u
def Nf:∀{l k j o},l[j]?=aa o->(k+j,o)∈number k l:=by intro l;induction l with|nil=>intro k j o h;cases h|cons p l b =>intro k j o h;cases j with|zero=>(obtain rfl:=aI h;exact rU ..)|succ j=>exact wZ _ (by rw[show k+(j+1)=k+1+j by omega];exact b (by simpa using h))
def Ng{d}:∀{items},pt d items=false->∀{i o},(i,o)∈items->o.dst≠aa d:=λh _ _ b=>YE h _ _ b
def PZ(y:ga P cx)(f:ql P B.G cx)(g:zf P B.G inl){Q}(q:∀i o,ops[i]?=aa o->(fp i).LF=false->VO cx nb o (fp i))
  (z:∀o∈ops.toList,∀k,o.dst=aa k->k<N):∀n b σ γ a w,aff cx nb bf inl ops fp (·=aV) n b σ->dG B N γ σ a w ->(∀bF r w',dG B N bF aV r w'->Ext B γ σ.mem w bF aV.mem w'->Fr (number 0 ops.toList) a r->Q .normal r w')->wpAny P .any ops Q n b a w:=by
 intro n;induction n with|zero =>(intro b σ γ a w h hs m;obtain⟨e,rfl⟩:=h;exact⟨e,m γ a w hs (Ext.refl _ _ _ _) λt _=>rfl⟩)|succ n A =>intro b σ γ a w h hs m;refine⟨λC=>?_,λi D=>?_⟩;{obtain rfl:=h.1 C;exact m γ a w hs (Ext.refl _ _ _ _) λt _=>rfl};(obtain⟨o,bO,e,E,F,H⟩:=h.2 i D;have j:o∈ops.toList:=by have:=aef e;simpa using this);(have c:(i,o)∈number 0 ops.toList:=by have:=Nf (l:=ops.toList) (k:=0) (by simpa using e);simpa using this);(unfold wpOp;rw[e];dsimp only;have I:Region.wanted o (yielded ops a.tmps)=true:=by unfold Region.wanted;rw[E]);rw[I];refine .inl (MX y f g hs (z o j) (DU (q i o e) F) λs v J K L=>?_);refine A _ bO s _ J H K λu M O R S T=>m u M O R (L.trans S) λt x=>?_;rw[T t x,gz (Ng x c)]
def dG.draw{a w}(h:dG B N γ σ a w) n:dG B N γ σ a { w with drawn:=n }/\Ext B γ σ.mem w γ σ.mem { w with drawn:=n }:=by obtain⟨m1,c⟩:=h.ok.far (w':={ w with drawn:=n }) (I':=γ.I) ⟨rfl,rfl,rfl,b0 _,λ_ _=>rfl⟩ (λ_ _ k=>k) (λb o k=>h.ok.vQ b o k) (λb o k e=>absurd k e);exact⟨h.go c m1,c⟩
def Ti(c:P.follows .mixedOrders=true)(u:ga P cx)(g:ql P B.G cx)(m:zf P B.G inl){Q id a w}
  (v:∀o∈ops.toList,∀k,o.dst=aa k->k<N) (y:(Mt cx nb bf inl (number 0 ops.toList) [] σ).run=aa aV) (h:dG B N γ σ a w) (z:∀bF n w',dG B N bF aV n w'->Ext B γ σ.mem w bF aV.mem w'->Fr (number 0 ops.toList) a n->Q .normal n w'):(Code.region id ops true).wp P Q a w:=by
 refine wp_region_any c ?_;obtain⟨A,O,R,C⟩:=Th ops.toList 0 [] σ (λj o b=>by simpa using b) vf.nil y
 let fp:Nat->Fp:=λi=>(A[i]?.map (·.1)).getD ⟨[],[],true,af⟩
 obtain⟨r,_⟩:=C fp λj f b=>by simp[fp,b]
 have key:∀l k σ,ahW cx nb bf inl ops fp k l σ aV->∀j o,l[j]?=aa o->(fp<|k+j).LF=false->VO cx nb o (fp<|k+j):=by
  intro l;induction l with|nil=>intro k σ _ j o b;cases b|cons o l D =>intro k σ E j F b;obtain⟨S,H,I,T,U,bO,V,J⟩:=E;cases j with|zero=>(obtain rfl:=aI b;exact H)|succ j=>rw[show k+_=k+1+j by omega];exact D _ bO J j F (by simpa using b)
 have K:=afh (aV:=aV) ops.toList 0 (Array.replicate ops.size false) σ aT aT (λj b=>ah) (λj _ b=>by simp[b]) (λi o e q=>by rcases ug i ops.size with t|t<;>simp[t] at q) r
 obtain⟨L,M⟩:=h.draw _;refine PZ u g m (λi o q=>by have:=key _ 0 σ r i o (by simpa using q);simpa using this) v _ _ σ γ a _ (by simpa using K) L λbF n w' s x f=>z bF n w' s (M.trans x) f
end
end Go.Ge
