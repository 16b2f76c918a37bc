import Derived.Test.YtgklgliokhbcnaaGreatDoorGeC
import Derived.Great.BuildSlice
import Derived.Laws.IdiomStrings
import Derived.Laws.BytesArg
import Derived.Laws.MakeOwn
import Derived.Deep.AppendSrc
set_option linter.unusedVariables false
set_option linter.unusedSimpArgs false
set_option linter.unusedSectionVars false
set_option linter.defProp false
open Option renaming some->aa,none->af
namespace Go.Ge
open RowKit
def W4(e:Gh)(c:Nat):Gh:={ e with I:=λb o=>e.I b o\/b=c }
def bC.aiI{B γ mem w}(h:bC B γ mem w) cs i :
  bC B (W4 γ w.heap.size) mem (w.alloc<|.cells cs i)/\Ext B γ mem w (W4 γ w.heap.size) mem (w.alloc<|.cells cs i):=by
 have hx:Ext B γ mem w (W4 γ w.heap.size) mem (w.alloc<|.cells cs i) :=
  { below:=(vD.refl _ _).alloc h.base _
    I:=λ_ _ x=>.inl x
    qV:=λc o x=>by
     rcases x with x|x
     .grind
     .exact .inr (.inl<|by rw[x];exact h.base)
    cells:=λc o x=>dH (da w _ c<|h.te c o x)
    boxes:=λb g hb=>⟨g,hb,bX _,λ_=>⟨rfl,rfl,rfl⟩⟩ }
 refine⟨?_,hx⟩;have j:(w.alloc<|.cells cs i).heap.size=w.heap.size+1:=aS;exact
  { tf:=h.BU hx
    base:=by rw[j];exact TJ h.base
    boxes:=λb g hb=>(h.boxes b g hb).keep hx rfl λc k f=>da w _ c (h.fresh b c k (by rw[hb];simp) f).2
    inj:=h.inj
    fresh:=λb c k hb f=>by have:=h.fresh b c k hb f;exact⟨this.1,ag⟩
    te:=λc e hi=>by
     rcases hi with hi|hi
     .have:=h.te c e hi;omega
     .omega
    sep:=λb g c k e hb f hi=>by
     rcases hi with hi|hi
     .exact h.sep b g c k e hb f hi
     .have:=(h.fresh b c k (by rw[hb];simp) f).2;omega }
def LL off:∀l k b,off+k+l.length<=b.size ->
  (l.zipIdx k).foldl (λc x=>c.setIfInBounds (off+x.2) x.1) b=(ba b.toList (off+k) l).toArray
 | [],k,b,h=>by simp[ba]
 | v::r,k,b,h=>by
   simp only[List.zipIdx_cons,ac9];rw[LL off r (k+1) _<|by simp at h⊢;omega];have e:=list_seg_step b.toList _ v r ag;simpa [ba,En] using e
def wH{place cells i off size v rest}(b:place i=aa (off,size))(e:v.cells.toList.length=size)
  (c:off+size<=cells.size):Instr.fill place cells ((i,v)::rest)=Instr.fill place (ba cells.toList off v.cells.toList).toArray rest:=by
 have f:(v.cells.size≠size||off+v.cells.size > cells.size)=false:=by
  grind
 simp only[Instr.fill,b];rw[<-Array.foldl_toList];have:=LL off v.cells.toList 0 cells ag
 grind
def W5{w I u y es}(m:bH w I u y es):∀{t x f cs k o},
  bH w I t x cs->iG t k=aa o->Lo t x k u y=aa f->bH w I t f (ba cs o es)/\o+es.length<=cs.length:=by
 intro t;induction t with
 | pair a b v g =>
   intro x f cs k o h c e;obtain⟨i,n,rfl,j,p⟩:=h;cases k with
   | zero =>
     simp only[iG,Lf] at c;subst c;simp only[Lo] at e;split at e
     .rename_i F A;obtain⟨q,C⟩:=Ty.lO A;subst q;subst C;obtain rfl:=aF e;have r:es.length=i.length:=by rw[m.length,j.length]
      refine⟨⟨es,n,?_,m,p⟩,by rw[jt];omega⟩;simp only[ba]
      grind
     .cases e
   | succ k =>
     simp only[iG] at c;cases l:iG b k with
     | none=>rw[l] at c;cases c
     | some s =>
       rw[l] at c;simp at c;simp only[Lo] at e;split at e
       .rename_i z D;obtain rfl:=aF e;obtain⟨E,G⟩:=g p l D;have r:=j.length;refine⟨⟨i,ba n s es,?_,j,E⟩,by rw[jt];omega⟩;subst c;rw[<-r];simp only[ba];first
         | (rw[acR,vL,En,<-Af,Lj];simp[vL];done)
         | (rw[Zb s i.length];simp)
       .cases e
 | _=>intro x f cs k o h c;cases k<;>simp[iG] at c
def JU:∀{t k u},uR t k=aa u->∃o,iG t k=aa o:=by
 intro t;induction t with
 | pair a b e c =>
   intro k u h;cases k with
   | zero=>exact⟨0,rfl⟩
   | succ k =>
     obtain⟨o,f⟩:=c h;simp only[iG]
     grind
 | _=>intro k u h;cases k<;>cases h
section
variable {P:Program} {B:BT} {N:Nat} {γ:Gh} {σ aQ:St} {a:Act} {w:World} {d:Option Nat} {cx:Ctx}
def Hs{place t}(m:∀k u o,uR t k=aa u->iG t k=aa o->place k=aa (o,u.size)) :
  ∀{parts x l cells σ aQ γ},dm B N γ σ a w->bH w γ.I t x cells.toList->iH σ t x parts=aa (l,aQ) ->
   ∃b bz,Instr.fill place cells (parts.map λp=>(p.1,a.eval p.2))=aa b/\dm B N bz aQ a w/\Ext B γ σ.mem w bz aQ.mem w/\bH w bz.I t l b.toList:=by
 intro parts;induction parts with
 | nil =>
   intro x l cells σ aQ γ h n c;obtain⟨rfl,rfl⟩:=eh (aF c);exact⟨cells,γ,rfl,h,Ext.refl _ _ _ _,n⟩
 | cons p r E =>
   obtain⟨k,o⟩:=p;intro x l cells σ aQ γ h n c;simp only[iH] at c;split at c
   .rename_i u A;split at c
    .rename_i y bL F;split at c
     .rename_i R q;obtain⟨G,H,s,C,v,J⟩:=nX h (h.cW o) F;obtain f:a.eval o=_:=by simpa using J
      have g:(a.eval o).cells.toList=C:=by rw[f];exact ub v
      obtain⟨i,e⟩:=JU A;obtain⟨K,D⟩:=W5 v (bH.mono s.I s.cells n) e q;have j:=v.length;obtain⟨b,z,L,M,O,Q⟩:=E (cells:=(ba cells.toList i C).toArray) H (by simpa using K) c;refine⟨b,z,?_,M,s.trans O,Q⟩;simp;rw[wH (m k u i A e) (by rw[g];exact j)<|by rw[j] at D;simpa using D,g];exact L
     .cases c
    .cases c
   .cases c
def Bd{n}{e:Ty}{place}(t:∀k,place k=aa (k*e.size,e.size)) :
  ∀{parts} {l s:List e.den} {cells σ aQ γ},dm B N γ σ a w->bH w γ.I (.arr n e) l cells.toList->fG σ e l parts=aa (s,aQ) ->
   ∃b bz,Instr.fill place cells (parts.map λp=>(p.1,a.eval p.2))=aa b/\dm B N bz aQ a w/\Ext B γ σ.mem w bz aQ.mem w/\bH w bz.I (.arr n e) s b.toList:=by
 intro parts;induction parts with
 | nil =>
   intro l s cells σ aQ γ h u c;obtain⟨rfl,rfl⟩:=eh (aF c);exact⟨cells,γ,rfl,h,Ext.refl _ _ _ _,u⟩
 | cons p r J =>
   obtain⟨k,o⟩:=p;intro l s cells σ aQ γ h u c;simp only[fG] at c;split at c
   .rename_i y bL K;cases f:Nat.blt k l.length with
    | false=>rw[f] at c;cases c
    | true =>
      rw[f] at c;have F:k<l.length:=by simpa using f
      obtain⟨v,L,x,z,A,M⟩:=nX h (h.cW o) K;obtain j:a.eval o=_:=by simpa using M
      have m:(a.eval o).cells.toList=z:=by rw[j];exact ub A
      obtain⟨G,C,O⟩:=bH.mono x.I x.cells u;have D:l.length=n:=G;have g:=A.length;have H:(k+1)*e.size<=n*e.size:=gN _ ag;rw[Hf] at H;have i:k*e.size+z.length<=cells.toList.length:=by rw[g,C];exact H
      have q:bH w v.I (.arr n e) _ _ :=
       ⟨(@List.length_set _ l _ _).trans G,by rw[bP i];exact C,LB D (by rw[C];apply bX) O ag A⟩
      obtain⟨b,E,Q,R,S,T⟩:=J (cells:=(ba cells.toList _ z).toArray) L (by simpa using q) c;refine⟨b,E,?_,R,x.trans S,T⟩;simp;rw[wH (t k) (by rw[m];exact g)<|by rw[g] at i;simpa using i,m];exact Q
   .cases c
def rN.places{t}:∀{off e},rN P t off e->∃c,e.mapM (λf=>(P.info? f.type).map λi=>(f.offset,i.size))=aa c /\
  ∀k u o,uR t k=aa u->iG t k=aa o->c[k]?=aa (off+o,u.size):=by
 induction t with
 | pair a b m l =>
   intro off e h;obtain⟨f,r,rfl,y,A,n,C,p⟩:=h.cons;obtain⟨q,s,D⟩:=l p;obtain⟨i,z,v,E,_⟩:=n.info;refine⟨(f.offset,i.size)::q,by simp[v,s],λk u o g j=>?_⟩;cases k with
   | zero =>
     simp only[uR,iG] at g j
     grind
   | succ k =>
     simp only[uR,iG] at g j;cases x:iG b k with
     | none=>rw[x] at j;cases j
     | some F =>
       grind
 | unit =>
   intro off e h;cases e with
   | nil=>exact⟨[],rfl,λk u o g=>by cases k<;>cases g⟩
   | cons f r=>simp[rN,gj] at h
 | _=>intro off e h;cases e<;>simp[rN,gj] at h
def I3{mem}:∀{c v},qh c=aa v->cu γ mem w v .cells (LA c):=by
 intro c;induction c with
 | nil=>intro v h;obtain rfl:=aF h;rfl
 | cons f r g =>
   intro v h;cases f with
   | dat t =>
     simp only[qh] at h;split at h
     .rename_i u b;obtain rfl:=aF h;exact⟨_,_,rfl,jE _ _ t,g b⟩
     .cases h
   | buf e i =>
     simp only[qh] at h;split at h
     .rename_i u b;obtain rfl:=aF h;exact⟨[.slice af 0 0],_,rfl,rfl,g b⟩
     .cases h
   | one =>
     simp only[qh] at h;split at h
     .rename_i u b;obtain rfl:=aF h;exact⟨[.pointer af],_,rfl,rfl,g b⟩
     .cases h
   | fnc =>
     simp only[qh] at h;split at h
     .rename_i u b;obtain rfl:=aF h;exact⟨[.nilFunc],_,rfl,⟨_,rfl,rfl⟩,g b⟩
     .cases h
   | self=>cases h
def wZ{place O}(E:∀k o f,wS O k=aa o->O[k]?=aa f->place k=aa (o,f.size))(h:dm B N γ σ a w) :
  ∀{parts v L cells},cu γ σ.mem w v .cells cells.toList->mr σ O v parts=aa L ->
   ∃b,Instr.fill place cells (parts.map λp=>(p.1,a.eval p.2))=aa b/\cu γ σ.mem w L .cells b.toList:=by
 intro parts;induction parts with
 | nil=>intro v L cells C i;obtain rfl:=aF i;exact⟨cells,rfl,C⟩
 | cons p r Q =>
   obtain⟨k,x⟩:=p;intro v L cells C i;simp only[mr] at i;split at i
   case h_3=>cases i
   case h_2 =>
    rename_i o R f F M A;cases m:Nat.beq o R&&Nat.beq 1 f.size with
    | false=>rw[m] at i;cases i
    | true =>
      rw[m] at i;simp only[gz] at m;obtain rfl:=gA m.1;have l:=gA m.2;split at i
      case h_2=>cases i
      rename_i g c n;split at i
      case h_2=>cases i
      rename_i S q;have j:=(h.cW x).jS (λu e=>by rw[e] at n;cases n) (λe=>by rw[e] at n;cases n);rw[n] at j;obtain⟨G,_⟩:=zp C F;have s:o+1<=cells.toList.length:=G;have D:(a.eval x).cells.toList.length=1:=by obtain⟨U,e,_⟩:=j;rw[e];rfl
      obtain⟨b,H,I⟩:=Q (cells:=(ba cells.toList o (a.eval x).cells.toList).toArray) (by simpa using(Am C F (λz J=>by obtain rfl:=aF J;exact j) q D)) i;refine⟨b,?_,I⟩;simp;rw[wH (E k o f M A) (by rw[D];exact l)<|by rw[<-l];simpa using s];exact H
   rename_i o t V R f F M A;cases m:Nat.beq o R&&Nat.beq t.size f.size with
   | false=>rw[m] at i;cases i
   | true =>
     rw[m] at i;simp only[gz] at m;obtain rfl:=gA m.1;have l:=gA m.2;split at i
     case h_2 =>
      obtain⟨K,i⟩:TZ t (cW σ x)=true/\_:=by
       cases T:TZ t (cW σ x) with
       | false=>rw[T] at i;cases i
       | true=>rw[T] at i;exact⟨rfl,i⟩
      simp only[wP] at i;split at i
      case h_2=>cases i
      rename_i S q;have j:=(h.cW x).jS (λu e=>by rw[e] at K;cases t<;>cases K) (λe=>by rw[e] at K;cases t<;>cases K);have D:=j.length.trans (PT K);obtain⟨G,_⟩:=zp C F;have s:o+t.size<=cells.toList.length:=G;obtain⟨b,H,I⟩:=Q (cells:=(ba cells.toList o (a.eval x).cells.toList).toArray) (by simpa using(Am C F (λz J=>by obtain rfl:=aF J;exact j) q D)) i;refine⟨b,?_,I⟩;simp;rw[wH (E k o f M A) (by rw[D];exact l)<|by rw[<-l];simpa using s];exact H
     rename_i y n;split at i
     case h_2=>cases i
     rename_i S q;have j:=KH n ((h.cW x).jS (λu e=>by rw[e] at n;cases n) λe=>by rw[e] at n;cases n);obtain⟨G,_⟩:=zp C F;have s:o+t.size<=cells.toList.length:=G;have D:=j.length;obtain⟨b,H,I⟩:=Q (cells:=(ba cells.toList o (a.eval x).cells.toList).toArray) (by simpa using(Am C F (λz J=>by obtain rfl:=aF J;exact j) q D)) i;refine⟨b,?_,I⟩;simp;rw[wH (E k o f M A) (by rw[D];exact l)<|by rw[<-l];simpa using s];exact H
def JV(n:fi P cx){t:TypeId}{e l p q}{parts:Array (Nat×Operand)}(h:dm B N γ σ a w)(r:∀k,d=aa k->k<N)(s:find cx.vO t=aa e)
  (g:qh e=aa l) (u:mr σ e l parts.toList=aa (.mix p q)) :
  nU P B N γ σ a w d (Instr.build t<|parts.map λ(i,x)=>(i,a.eval x)) (σ.bt d<|.mix p q):=by
 have m:=n.vO _ _ s;simp only[Om,gz] at m;obtain⟨j,v⟩:=m;obtain⟨i,z,J,K,L,y⟩:=km v;split at j
 case h_2=>cases j
 obtain⟨M,O,A⟩:=FE j;obtain⟨b,Q,C,D,E,F,G⟩:=wZ (λk o f H I=>by have:=A k o f H I;simpa using this) h
  (by rw[y];exact I3 g) u
 have c:(Instr.build t<|parts.map λ(i,x)=>(i,a.eval x)).run P w=.ok (.agg b) w:=by
  refine run_build w t _ _ ?_;unfold Program.built;simp_all
 exact bM h r c ⟨C,D,by rw[<-E],F,G⟩
def Ht(n:fi P cx){t:TypeId}{e l u}{parts:Array (Nat×Operand)}(h:dm B N γ σ a w)(p:∀k,d=aa k->k<N)(q:find cx.vO t=aa e)
  (g:qh e=aa l) (r:mr σ e l parts.toList=aa (.data .unit u)) :
  nU P B N γ σ a w d (Instr.build t<|parts.map λ(i,x)=>(i,a.eval x)) (σ.bt d<|.data .unit ()):=by
 have m:=n.vO _ _ q;simp only[Om,gz] at m;obtain⟨j,s⟩:=m;obtain⟨i,z,E,F,G,v⟩:=km s;split at j
 case h_2=>cases j
 obtain⟨H,I,y⟩:=FE j;obtain⟨b,J,A⟩:=wZ (λk o f C D=>by have:=y k o f C D;simpa using this) h
  (by rw[v];exact I3 g) r
 have c:(Instr.build t<|parts.map λ(i,x)=>(i,a.eval x)).run P w=.ok (.agg b) w:=by
  refine run_build w t _ _ ?_;unfold Program.built;simp_all
 exact bM h p c ⟨[],rfl,by rw[show b=#[] from Array.ext' A];rfl⟩
def agy:∀{t k o f},wS (Hk t) k=aa o->(Hk t)[k]?=aa f->∃u,uR t k=aa u/\iG t k=aa o/\f.size=u.size:=by
 intro t;induction t with
 | pair a b _ e =>
   intro k o f c h;cases k with
   | zero=>exact⟨a,rfl,c,by obtain rfl:=aF h;rfl⟩
   | succ k =>
     simp only[Hk,wS] at c;split at c
     .rename_i m g;obtain rfl:=aF c;obtain⟨u,i,j,l⟩:=e g (by simpa [Hk] using h);exact⟨u,i,by simp[iG,j];rfl,l⟩
     .cases c
 | _=>intro k o f c;cases c
def Ey(A:fi P cx){bf}{t:TypeId}{u v}{parts:Array (Nat×Operand)}{x}(h:dm B N γ σ a w)(l:∀k,d=aa k->k<N)(C:find cx.T t=aa (.pair u v))
  (c:pP bf σ (.pair u v) parts.toList=aa (x,aQ)) :
  nU P B N γ σ a w d (Instr.build t<|parts.map λ(i,x)=>(i,a.eval x)) (aQ.bt d x):=by
 have m:=A.T _ _ C;obtain⟨Y,Z,D,_⟩:=m.pair;obtain⟨E,p1,n⟩:=D.places;obtain⟨i,z,i1,i2,i3,r⟩:=m.info;have e:∀b,Instr.fill (λk=>E[k]?) z.cells (parts.toList.map λp=>(p.1,a.eval p.2))=aa b->(Instr.build t<|parts.map λ(i,x)=>(i,a.eval x)).run P w=.ok (.agg b) w:=λb j=>by
  refine run_build w t _ _ ?_;unfold Program.built;simp_all
 unfold pP at c;cases s:cU bf 8600000&&parts.toList.any (λp=>rU (cW σ p.2)) with
 | true =>
   rw[s] at c;simp only[wP] at c;split at c
   case h_2=>cases c
   rename_i p q g;obtain⟨rfl,rfl⟩:=eh (aF c);obtain⟨b,j,F,G,H,J,K⟩:=wZ (λk o f g L=>by
    obtain⟨M,O,Q,R⟩:=agy g L;have:=n k M o O Q;rw[R];simpa using this) h (by rw[r];exact PV (jE w γ.I _)) g
   exact bM h l (e _ j) ⟨F,G,by rw[<-H],J,K⟩
 | false =>
   rw[s] at c;simp only[BF] at c;split at c
   case h_2=>cases c
   rename_i y bL S;obtain⟨rfl,rfl⟩:=eh (aF c);obtain⟨b,bz,j,U,V,W⟩:=Hs (λk u o X g=>by have:=n k u o X g;simpa using this) h
    (by rw[r];exact jE w γ.I _) S
   exact⟨_,_,bz,e _ j,U.wW l ⟨_,W,rfl⟩,by cases d<;>exact V⟩
def LM(F:fi P cx){t:TypeId}{u v:Ty}{c k n:Nat}(h:dm B N γ σ a w)(G:n<N)(H:find cx.T t=aa (.pair u v))(m:(wR c n (.pair u v) k σ).run=aa aQ) :
  nU P B N γ σ a w (aa n) (Instr.build t #[]) aQ:=by
 have D:=F.T _ _ H;obtain⟨S,I,J,_⟩:=D.pair;obtain⟨U,K,V⟩:=J.places;obtain⟨i,z,L,W,M,O⟩:=D.info;unfold wR at m;split at m
 case h_2=>exact absurd m cg
 rename_i e Q;obtain⟨R,o⟩:=ay m;have p:0<e.size:=by simpa using R
 obtain⟨f,g,q⟩:=dQ o;obtain rfl:=aF q;obtain⟨m1,E⟩:=h.ok.Hq (b:=c+n) (e:=e) (tid:=0) g p;have j:(Instr.build t #[]).run P w=.ok (.agg z.cells) w:=by
  refine run_build w t #[] _ ?_;unfold Program.built;simp only[L,I,M,K];rfl
 have l:cu (bK γ (c+n) af) (dd σ.mem (c+n) { val:=.data (.slice e) ([]:List e.den),tid:=0,buf:=true,ro:=false,lk:=false,aM:=f }) w (.whole (c+n) f) .cells [.slice af 0 0] :=
  ⟨⟨_,rfl,rfl⟩,fY (bB _ _) rfl ⟨e,0,rfl,rfl,.inl ⟨by simp[bK],rfl⟩⟩⟩
 have r:=adO l (t:=.pair u v) Q;refine⟨.agg z.cells,w,_,j,h.step E m1 G ?_,E⟩;rw[<-O] at r;cases k with
 | zero =>
   obtain⟨s,x,y,A,C⟩:=r;exact⟨s,x,by rw[<-y],A,C⟩
 | succ k =>
   obtain⟨s,x,y,A,C⟩:=r;exact⟨s,x,by rw[<-y],A,C⟩
def FM(j:fi P cx){t:TypeId}{n e}{parts:Array (Nat×Operand)}{l}(h:dm B N γ σ a w)(m:∀k,d=aa k->k<N)(o:find cx.T t=aa (.arr n e))
  (p:fG σ e (List.replicate n e.zero) parts.toList=aa (l,aQ)) :
  nU P B N γ σ a w d (Instr.build t<|parts.map λ(i,x)=>(i,a.eval x)) (aQ.bt d<|.data (.arr n e) l):=by
 have f:=j.T _ _ o;obtain⟨q,C,r,D⟩:=f.arr;obtain⟨g,E,F,s,G,H⟩:=r.info;obtain⟨i,z,J,K,L,u⟩:=f.info;obtain⟨b,bz,M,v,y,A⟩:=Bd (place:=λk=>aa (k*g.size,g.size)) (λk=>by rw[s]) h
  (by rw[u];exact jE w γ.I _) p
 have c:(Instr.build t<|parts.map λ(i,x)=>(i,a.eval x)).run P w=.ok (.agg b) w:=by
  refine run_build w t _ _ ?_;unfold Program.built;simp_all
 exact⟨_,_,bz,c,v.wW m ⟨_,A,rfl⟩,by cases d<;>exact y⟩
def w8{e}{z:Value}(h:z.cells.toList=e9 e)(f:0<e.size) n:(madeCells z.cells<|n*e.size).toList=e9 (.arr n e):=by
 have i:z.cells.size=e.size:=by rw[<-ea e,<-h];simp
 apply DE;intro j;have hlen:(e9<|.arr n e).length=n*e.size:=by rw[ea];rfl
 rcases rR j (n*e.size) with b|b
 .have k:(madeCells z.cells<|n*e.size).toList[j]?=aa (z.cells[j % z.cells.size]!):=by simp[madeCells,b]
  have g:=e7 (e9 e) n _ (by rw[YW f];exact b);rw[ea] at g;have c:j / e.size*e.size+j % e.size=j:=by rw[TQ];exact TL j e.size
  have l:(e9<|.arr n e)[j]?=(e9 e)[j % e.size]?:=by
   conv=>rhs;rw[<-g]
   rw[jq,aN (BE j f),tu,c];rfl
  grind
 .rw[yH<|by simp[madeCells];omega,yH ag]
def Rx{w I}{e:Ty}{n}{l:List e.den}{cells t blk k}(h:bH w I (.arr n e) l cells.toList)(m:w.heap[blk]?=aa (.cells cells t k))
  (p:∀o,I blk o) (q:n<=maxLen):bH w I (.slice e) l [.slice (aa ⟨blk,0,af⟩) n n]:=by
 obtain⟨r,v,s⟩:=h;have b:l.length=n:=r;refine .inr ⟨blk,0,n,by rw[<-b],by rw[<-b];exact bX _,q,λi x u=>?_⟩;have f:l[i]?=aa x:=u;have g:=s i x f;refine⟨_,g.length,λj c y=>⟨?_,p _⟩,g⟩;rw[cell_of_heap m]
 grind
def B0(v:fi P cx){t:TypeId}{n e}{parts:Array (Nat×Operand)}{l}(h:dm B N γ σ a w)(y:find cx.T t=aa (.slice e))
  (J:n*e.size<=65536) (z:fG σ e (List.replicate n e.zero) parts.toList=aa (l,aQ)) :
  ∃b bz c,0<e.size/\dm B N bz aQ a w/\Ext B γ σ.mem w bz aQ.mem w/\bH w bz.I (.arr n e) l b.toList /\
   (Instr.buildSlice t n<|parts.map λ(i,x)=>(i,a.eval x)).run P w=.ok (.slice (aa ⟨w.heap.size,0,af⟩) n n) (w.alloc<|.cells b c):=by
 obtain⟨c,q,A,K,r⟩:=(v.T _ _ y).slice;obtain⟨g,j,s,m,C,D⟩:=A.info;obtain⟨b,bz,u,E,F,G⟩:=Bd (place:=λk=>aa (k*g.size,g.size)) (λk=>by rw[m]) h
  (by rw[w8 D r];exact jE w γ.I _) z
 refine⟨b,bz,c,r,E,F,G,?_⟩;have f:Instr.fill (λi=>aa (i*g.size,g.size)) (madeCells j.cells<|n*g.size) (parts.map λ(i,x)=>(i,a.eval x)).toList=aa b:=by rw[m] at u⊢;simpa using u
 by_cases o:n*g.size=0
 .have p:madeCells j.cells (n*g.size)=#[]:=by rw[o];simp[madeCells]
  rw[p] at f;simp at f;simp[Instr.buildSlice,run_underlying q,Go.sizeOf,typeInfo,s,o];have H:(Array.map (λx=>(default:Value))<|Array.range 0)=#[]:=by simp[Array.range]
  rw[H,f];rfl
 .exact run_buildSlice w t c n _ b g j q s C (by rw[m];omega) o f
def Hu(p:fi P cx){t:TypeId}{n e}{parts:Array (Nat×Operand)}{l}(h:dm B N γ σ a w)(q:∀k,d=aa k->k<N)(r:find cx.T t=aa (.slice e))
  (g:Nat.ble (n*e.size) 65536=true) (s:fG σ e (List.replicate n e.zero) parts.toList=aa (l,aQ)) :
  nU P B N γ σ a w d (Instr.buildSlice t n<|parts.map λ(i,x)=>(i,a.eval x)) (aQ.bt d<|.data (.slice e) l):=by
 have g:=JH g;obtain⟨b,bz,j,u,m,v,y,c⟩:=B0 p h r g s;obtain⟨m1,f⟩:=m.ok.aiI b j;refine⟨_,_,_,c,m.bt f m1 q ⟨[.slice _ n n],?_,rfl⟩,by cases d<;>exact v.trans f⟩;refine Rx (bH.mono f.I f.cells y) (heap_alloc_new w _) (λo=>.inr rfl) ?_;have:n*1<=n*e.size:=Nat.mul_le_mul_left _ u;have:65536<=maxLen:=aD;omega
def LN(u:fi P cx){t:TypeId}{n e}{parts:Array (Nat×Operand)}{l nb k bL}(h:dm B N γ σ a w)(v:k<N)(y:find cx.T t=aa (.slice e))
  (j:Nat.ble (n*e.size) 65536=true) (z:fG σ e (List.replicate n e.zero) parts.toList=aa (l,bL))
  (A:(bL.bu (nb+k) (.data (.slice e) l) 0 true λb σ=>.ret (σ.put k<|.whole (nb+k) b)).run=aa aQ) :
  nU P B N γ σ a w (aa k) (Instr.buildSlice t n<|parts.map λ(i,x)=>(i,a.eval x)) aQ:=by
 have j:=JH j;obtain⟨g,bz,C,q,m,D,E,c⟩:=B0 u h y j z;obtain⟨b,f,o⟩:=dQ A;obtain rfl:=aF o;obtain⟨r,F,G⟩:=E;have p:n<=maxLen:=by
  have:n*1<=n*e.size:=Nat.mul_le_mul_left _ q;have:65536<=maxLen:=aD;omega
 obtain⟨H,s⟩:=m.ok.LC (w':=w.alloc _) f q
  ((vD.refl _ _).alloc m.ok.base _) (da w _) (heap_alloc_new w _) (wX _ _) (.inl rfl) (DT r) p (by simpa using F) G
 refine⟨_,_,_,c,m.step s H v ?_,D.trans s⟩;exact⟨⟨_,rfl,rfl⟩,fY (bB _ _) rfl ⟨e,n,rfl,by rw[<-r];rfl,.inr ⟨w.heap.size,n,by simp[bK],rfl⟩⟩⟩
def Ry{place}(z:∀k,place k=aa (k,1))(h:dm B N γ σ a w) :
  ∀{parts k v cells},cells.size=k+parts.length->BP σ k parts=aa v ->
   ∃g,Instr.fill place cells (parts.map λp=>(p.1,a.eval p.2))=aa (cells.toList.take k++g).toArray/\cu γ σ.mem w v .cells g:=by
 intro parts;induction parts with
 | nil =>
   intro k v cells hs l;obtain rfl:=aF l;refine⟨[],?_,rfl⟩;have:cells.toList.take k=cells.toList:=JG (by simp[hs]);rw[this];simp[Instr.fill]
 | cons p r E =>
   obtain⟨j,x⟩:=p;intro k v cells hs l;simp only[BP] at l;cases A:Nat.beq j k with
   | false=>rw[A] at l;cases l
   | true =>
     rw[A] at l;obtain rfl:=gA A;simp at hs;have key:∀u o c,(∀t,u≠.BI t)->u≠.undef->cW σ x=u->BP σ (j+1) r=aa o->v=.mix u o->(a.eval x).cells.toList=[c] ->
       ∃g,Instr.fill place cells (((j,x)::r).map λp=>(p.1,a.eval p.2))=aa (cells.toList.take j++g).toArray/\cu γ σ.mem w v .cells g:=by
      intro u o c F G n i C m;have hx:=h.cW x;rw[n] at hx;have s:=hx.jS F (λe=>absurd e G);have hlen:(ba cells.toList j [c]).length=cells.toList.length:=bP cJ;obtain⟨g,L,H⟩:=E (cells:=(ba cells.toList j [c]).toArray) (by simp only[Lg,hlen,TF];omega) i;have M:(ba cells.toList j [c]).take (j+1)=cells.toList.take j++[c]:=by
       have:(cells.toList.take j).length=j:=by rw[dk,TF];omega
       simp only[ba]
       grind
      refine⟨c::g,?_,?_⟩
      .simp;rw[wH (z j) (by rw[m];rfl) ag]
       grind
      .rw[C];exact⟨[c],g,rfl,by rw[m] at s;exact s,H⟩
     split at l
     .rename_i o n i;obtain rfl:=aF l;have hx:=h.cW x;rw[n] at hx;obtain hx:a.eval x=_:=by simpa [cu] using hx
      exact key .uO o _ Bz cg n i rfl (by rw[hx];rfl)
     .rename_i b I q o n i;obtain rfl:=aF l;have hx:=h.cW x;rw[n] at hx;obtain⟨⟨y,J,D⟩,_⟩:=hx;obtain rfl:a.eval x=y:=by simpa using J
      refine key _ o (a.eval x) Bz cg n i rfl ?_;generalize a.eval x=y at D⊢;cases y<;>first|rfl|(simp[Value.oneCell'] at D)
     .rename_i f c o n i;obtain rfl:=aF l;have hx:=h.cW x;rw[n] at hx;obtain⟨K,hx,_,_⟩:=hx;obtain hx:a.eval x=_:=by simpa using hx
      exact key _ o _ Bz cg n i rfl (by rw[hx];rfl)
     .cases l
def Ou(q:fi P cx){t nb n}{parts:Array (Nat×Operand)}(h:dm B N γ σ a w)(C:∀k,d=aa k->k<N)
  (g:(CW cx nb d t n parts.toList σ).run=aa aQ):nU P B N γ σ a w d (Instr.buildSlice t n<|parts.map λ(i,x)=>(i,a.eval x)) aQ:=by
 unfold CW at g;split at g
 case h_2=>cases g
 rename_i k e v D E;obtain⟨r,m⟩:=ay g;simp only[gz] at r;obtain⟨⟨hn,F⟩,o⟩:=r;obtain rfl:=gA hn;have G:0<parts.toList.length:=by simpa using F
 have s:parts.toList.length<=64:=JH o;obtain⟨H,I⟩:=Ap q D;obtain⟨_,hs,z,J,_⟩:=q.uQ _ I;obtain⟨b,u,l⟩:∃b,P.info? e=aa b/\b.size=1:=by
  have:=hs w;cases hi:P.info? e with
  | none=>simp[Go.sizeOf,typeInfo,hi] at this
  | some b=>simp[Go.sizeOf,typeInfo,hi] at this;exact⟨b,rfl,this⟩
 obtain⟨c,K⟩:∃c,b.zero=aa c:=by
  have:=J w;cases hi:b.zero with
  | none=>simp[zeroValue,typeInfo,u,hi] at this
  | some c=>exact⟨c,rfl⟩
 obtain⟨L,f,p⟩:=dQ m;obtain rfl:=aF p;obtain⟨y,M,O⟩:=Ry (place:=λi=>aa (i*b.size,b.size)) (λj=>by rw[l];simp) h (cells:=(Array.range<|parts.toList.length*b.size).map (c.cells[· % c.cells.size]!)) (by simp[l]) E;obtain⟨m1,A⟩:=h.ok.newVar f e (.inl rfl) (by simpa using O);refine⟨_,_,_,(run_buildSlice w t e parts.toList.length _ _ b c H u K (by rw[l];omega) (by rw[l];omega)<|by rw[ac5];exact M),h.step A m1 (C k rfl) ?_,A⟩;refine⟨⟨_,rfl,rfl⟩,fY (bB _ _) rfl ⟨aS,w.heap.size,0,by simp[bK],ag,ag,ag,_,_,rfl,aS,.inr ?_⟩⟩;simp[eg]
def Hv(n:fi P cx){t:TypeId}{e nb k}(h:dm B N γ σ a w)(o:k<N)(p:find cx.T t=aa (.slice e))
  (q:(σ.bu (nb+k) (.data (.slice e) ([]:List e.den)) 0 true λb σ=>.ret (σ.put k<|.whole (nb+k) b)).run=aa aQ) :
  nU P B N γ σ a w (aa k) (Instr.buildSlice t 0 #[]) aQ:=by
 obtain⟨c,r,s,A,u⟩:=(n.T _ _ p).slice;obtain⟨C,D,v,E,F,G⟩:=s.info;obtain⟨b,f,j⟩:=dQ q;obtain rfl:=aF j;have g:(Instr.buildSlice t 0 #[]).run P w=.ok (.slice (aa ⟨w.heap.size,0,af⟩) 0 0) (w.alloc<|.cells #[] c):=by
  simp[Instr.buildSlice,run_underlying r,Go.sizeOf,typeInfo,v,newRow,Instr.fill]
  grind
 obtain⟨x,m⟩:=h.ok.LC (w':=w.alloc (.cells #[] c)) (l:=([])) f u
  ((vD.refl _ _).alloc h.ok.base _) (da w _) (heap_alloc_new w _) (wX _ _) (.inl rfl) (bX _) (pF _) aS (λi z y=>by cases y)
 refine⟨_,_,_,g,h.step m x o ?_,m⟩;exact⟨⟨_,rfl,rfl⟩,fY (bB _ _) rfl ⟨e,0,rfl,rfl,.inr ⟨w.heap.size,0,by simp[bK],rfl⟩⟩⟩
end
end Go.Ge
namespace Go.Ge
open RowKit
section
variable {P:Program} {B:BT} {N:Nat} {γ:Gh} {σ aQ:St} {a:Act} {w w':World} {d:Option Nat} {cx:Ctx}
def Ez:4294967296<=maxLen:=aD
def FN{n:Nat}(h:fits n=true):n<=4294967296:=by simp[fits] at h;omega
def B1{b e}(c:Eu P b=true)(f:P.info? b=aa e):e.bytes<=32768:=by
 unfold Eu at c;rw[f] at c;exact JH c
def zt{mem b cap blk bx e n}(c:bx.buf=true)(f:bx.row=aa (e,n)) :
  cu (bK γ b<|some (blk,cap)) (dd mem b bx) w' (.whole b bx.aM) .val [.slice (aa ⟨blk,0,af⟩) n cap] :=
 ⟨⟨_,rfl,rfl⟩,fY (bB _ _) rfl ⟨e,n,c,f,.inr ⟨blk,cap,by simp[bK],rfl⟩⟩⟩
def JW(I:fi P cx){t:TypeId}{nb k e x y A C}{l c:Int}(h:dm B N γ σ a w)(J:k<N)(K:find cx.T t=aa (.slice e))
  (L:cW σ x=.data (.int A) l) (M:cW σ y=.data (.int C) c) (u:inside 0 l c=true) (O:fits c=true)
  (Q:(σ.bu (nb+k) (.data (.slice e)<|lP l e.zero) 0 true λaM σ=>.ret (σ.put k<|.whole (nb+k) aM)).run=aa aQ) :
  nU P B N γ σ a w (aa k) (Instr.makeSlice t (a.eval x)<|a.eval y) aQ:=by
 obtain⟨aM,p,v⟩:=dQ Q;obtain rfl:=aF v;obtain⟨_,R,S⟩:=jU u;have D:c<=4294967296:=by simpa [fits] using O
 have q:=h.cW x;have r:=h.cW y;rw[L] at q;rw[M] at r;obtain⟨U,_⟩:=vm q;obtain⟨V,_⟩:=vm r;obtain⟨m,W,X,Y,E⟩:=(I.T _ _ K).slice;obtain⟨o,s,F,G,Z,e4⟩:=X.info;have hb:=B1 Y F;have f:o.bytes*c<=281474976710656:=by
  have:o.bytes*c<=32768*c:=Int.mul_le_mul_of_nonneg_right ag ag;omega
 have g:(madeCells s.cells<|c.toNat*o.size).toList=e9 (.arr c.toNat e):=by rw[G];exact w8 e4 E _
 have hlen:(lP l e.zero).length=l.toNat:=by simp[lP]
 obtain⟨m1,H⟩:=h.ok.LC (w':=w.alloc (.cells (madeCells s.cells<|c.toNat*o.size) m)) (l:=lP l e.zero) (cap:=c.toNat) p E
  ((vD.refl _ _).alloc h.ok.base _) (da w _) (heap_alloc_new w _) (wX _ _) (.inl rfl) ag (by have:=Ez;omega)
  (by rw[G];apply size_madeCells) (λi z hz=>by
   rw[g];have j:(List.replicate l.toNat e.zero)[i]?=aa z:=hz;rw[acT] at j;split at j
   .rename_i hi;obtain rfl:e.zero=z:=by simpa using j
    have:=e7 (e9 e) c.toNat i ag;rw[ea] at this;rw[show e9 _=(List.replicate c.toNat _).flatten from rfl,this];apply jE
   .cases j)
 refine⟨_,_,_,by rw[U,V];exact(run_make w t m o s W F Z A C l c R S f ag),h.step H m1 J ?_,H⟩;have:=zt (γ:=γ) (w':=w.alloc (.cells (madeCells s.cells<|c.toNat*o.size) m)) (mem:=σ.mem) (b:=nb+k) (cap:=c.toNat) (blk:=w.heap.size)
  (bx:={ val:=.data (.slice e) _,tid:=0,buf:=true,ro:=false,lk:=false,aM }) (n:=l.toNat) rfl (by rw[<-hlen];rfl)
 exact this
def Rz(b:UInt8):IntKind.u8.min<=((b.toNat:Int))/\((b.toNat:Int))<=IntKind.u8.max:=u8_in b
def aaH{I}{l:List Int}{v src dst e}(h:BW w I (.int .u8) l v)(j:P.underlying src=aa (.slice e))(k:P.underlying e=aa (.int .u8))(m:P.underlying dst=aa .string) :
  (convert src dst v).run P w=.ok (.string ⟨(bm l).toArray⟩) w/\l.length<=maxLen:=by
 rcases h with ⟨rfl,g,b,n,q,o⟩|⟨c,f,b,n,q,o,r⟩
 .rcases o with rfl|⟨c,f,rfl⟩
  .rw[n];refine⟨?_,pF _⟩;cases g with
   | none=>exact run_convert_bytes_nil w src e j k 0 0 dst m
   | some u =>
     rw[run_convert_bytes_string w src dst e _ _ _ j k m];simp[ bm];rfl
  .rw[n];refine⟨?_,pF _⟩;exact run_convert_bytes_arg w src e j k c f 0 b [] rfl (λi p=>ag) dst m
 .rw[n];refine⟨?_,gi q o⟩;refine run_convert_bytes_arg w src e j k c f l.length b l rfl (λi p=>?_) dst m;obtain⟨x,y,s,t⟩:=r i l[i] (fX p);obtain⟨rfl,_⟩:=t;have:=s 0 _ rfl;simp only[Ty.size,Fo,Fm] at this;rw[this];simp[ fX p]
def Hw l:(bm l).length=l.length:=by simp[bm]
def bytesRow_at{s:bg}{cap i b}(c:s[i]?=aa b):((bytesRow ⟨s.toArray⟩ cap).toList.drop<|i*1).take 1=[.int .u8 (b.toNat:Int)]:=by
 apply DE;intro j;rw[jq];split
 .rename_i e;obtain rfl:j=0:=ag;rw[tu];simp only[bytesRow,YZ];rw[Tz<|by simpa using((hR.1 c).1)];simp[c]
 .rename_i e;rw[yH cJ]
def Ov s {cap} (h:s.size<=cap):(bytesRow s cap).size=cap:=by
 simp only[bytesRow,Array.size_append,Array.size_map,Array.size_replicate];have:s.data.size=s.size:=rfl;omega
def LO(y:fi P cx){nb k}{j l:TypeId}{x}{s:bg}(h:dm B N γ σ a w)(D:k<N)(E:find cx.T j=aa .str)(q:find cx.T l=aa (.slice<|.int .u8))
  (F:cW σ x=.data .str s) (G:(σ.bu (nb+k) (.data (.slice<|.int .u8)<|ax s) 0 true λaM σ=>.ret (σ.put k<|.whole (nb+k) aM)).run=aa aQ) :
  nU P B N γ σ a w (aa k) (convert j l<|a.eval x) aQ:=by
 have hv:=h.cW x;rw[F] at hv;obtain⟨H,I⟩:=yP hv;obtain⟨aM,m,r⟩:=dQ G;obtain rfl:=aF r;obtain⟨c,J,K,O,Q⟩:=(y.T _ _ q).slice;have g:=run_bytes_of_string w j l c ⟨s.toArray⟩ (y.T _ _ E).str J K.int;have t:(⟨s.toArray⟩:ByteArray).size=s.length:=by simp[ByteArray.size]
 rw[t] at g;have p:=grownCap_ge w s.length 0 c;have u:=grownCap_le_maxLen w s.length 0 c I;have hlen:(ax s).length=s.length:=by simp[ax]
 generalize A:grownCap w s.length 0 c=cap at *;obtain⟨m1,C⟩:=h.ok.LC (e:=.int .u8)
  (w':=w.drew.alloc (.cells (bytesRow ⟨s.toArray⟩ cap) c ((bytesRow ⟨s.toArray⟩ cap).size,(bytesRow ⟨s.toArray⟩ cap).size+1)))
  m aD ((vD.refl B w).drew.alloc h.ok.base _) (da w.drew _) (heap_alloc_new w.drew _) ⟨λo R S=>ag,λL=>by cases L⟩ (.inl rfl) (gi (DT hlen) p) u
  (by rw[(Ov ⟨s.toArray⟩ p)];exact(Fo _).symm) (λi z M=>by
   have f:(ax s)[i]?=aa z:=M;simp only[ax,Em] at f;cases v:s[i]? with
   | none=>rw[v] at f;cases f
   | some b =>
     rw[v] at f;obtain rfl:_=z:=aF f;exact⟨bytesRow_at v,Rz b⟩)
 refine⟨_,_,_,by rw[H];exact g,h.step C m1 D ?_,C⟩;have:=zt (γ:=γ) (mem:=σ.mem) (b:=nb+k) (cap:=cap) (blk:=w.heap.size)
  (bx:={ val:=.data (.slice<|.int .u8) _,tid:=0,buf:=true,ro:=false,lk:=false,aM }) (n:=s.length)
  (w':=w.drew.alloc (.cells (bytesRow ⟨s.toArray⟩ cap) c ((bytesRow ⟨s.toArray⟩ cap).size,(bytesRow ⟨s.toArray⟩ cap).size+1))) rfl (by rw[<-hlen];rfl)
 exact this
def FO(e:fi P cx){nb src dst x}(h:dm B N γ σ a w)(g:∀k,d=aa k->k<N)(c:(iv cx nb d src dst (cW σ x) σ).run=aa aQ) :
  nU P B N γ σ a w d (convert src dst<|a.eval x) aQ:=by
 have hv:=h.cW x;unfold iv at c;split at c
 .rename_i u k v n hs b f;rw[f] at hv;obtain⟨i,_⟩:=vm hv;obtain rfl:=aF c;refine bM h g (x:=.int k (k.wrap n)) ?_ (mkInt<|fJ _ _);rw[i];simp[convert,run_underlying (e.T _ _ hs).int,run_underlying (e.T _ _ b).int,Conv.intToInt]
 .rename_i s hs b f;rw[f] at hv;obtain rfl:=aF c;obtain⟨i,m⟩:=yP hv;refine bM h g ?_ hv;rw[i];simp[convert,run_underlying (e.T _ _ hs).str,run_underlying (e.T _ _ b).str]
 .rename_i s hs b f;split at c
  .rename_i k;obtain⟨y,j⟩:=cQ c;exact LO e h (g k rfl) hs b f j
  .exact absurd c cg
 .rename_i z hs b;split at c
  .rename_i l m;obtain rfl:=aF c;obtain⟨o,p,q,A,C⟩:=(e.T _ _ hs).slice;obtain⟨r,t⟩:=aaH (tC h.ok hv m) p q.int (e.T _ _ b).str;refine bM h g r ⟨_,⟨rfl,?_⟩,rfl⟩;exact gi (DT<|Hw l) t
  .exact absurd c cg
 .exact absurd c cg
end
end Go.Ge
namespace Go.Ge
open RowKit
section
variable {P:Program} {B:BT} {N:Nat} {γ:Gh} {σ aQ:St} {a:Act} {w w':World} {d:Option Nat} {cx:Ctx}
def fa(w:World)(I:Nat->Nat->Prop)(e:Ty)(l:List e.den)(b:List Value):Prop :=
 ∀(i:Nat) (x:e.den),l[i]?=aa x->bH w I e x ((b.drop<|i*e.size).take e.size)
def oI{c:Type}{a b:List c}{i s}(h:(i+1)*s<=a.length):((a++b).drop<|i*s).take s=(a.drop<|i*s).take s:=by
 grind
def fa.append{I e l m c f rest}(j:fa w I e l c)(k:fa w I e m f)(g:c.length=l.length*e.size)(n:f.length=m.length*e.size) :
  fa w I e (l++m) (c++f++rest):=by
 intro i x b;rw[Rb] at b;split at b
 .rename_i h;have o:(i+1)*e.size<=l.length*e.size:=gN _ h;rw[vL,oI ag];exact j i x b
 .rename_i h;have o:(i-l.length+1)*e.size<=m.length*e.size:=gN _ ((hR.1 b).1);have p:i*e.size=c.length+(i-l.length)*e.size:=by rw[g,<-iF];congr 1;omega
  rw[vL,p,<-Af,Lj,oI ag];exact k _ x b
def fa.front{I e l cs n}(h:fa w I e l cs)(c:l.length*e.size<=n)(f:n<=cs.length):fa w I e l (cs.take n):=by
 intro i x b;have g:(i+1)*e.size<=l.length*e.size:=gN _ ((hR.1 b).1);have:(((cs.take n)++cs.drop n).drop<|i*e.size).take e.size=((cs.take n).drop _).take e.size:=oI (by rw[dk];omega);rw[<-this,Fk];exact h i x b
def agz{I e m v tx t0 o}(p:(∃o,P.underlying tx=aa (.slice o))\/P.underlying tx=aa .string)(l:P.underlying t0=aa (.slice o))(h:BW w I e m v) :
  ∃b,Src P e.size tx v m.length b w/\fa w I e m b:=by
 suffices ∃b,Src P e.size t0 v m.length b w/\fa w I e m b by
  obtain⟨b,c,q⟩:=this;exact⟨b,⟨p,c.len,c.cells,c.cellsD,c.newsLen,c.one⟩,q⟩
 rcases h with ⟨rfl,g,f,n,y,t⟩|⟨r,s,f,n,y,t,z⟩
 .refine⟨[],?_,λi x A=>by cases A⟩;rcases t with rfl|⟨r,s,rfl⟩
  .rw[n];cases g with
   | none=>exact Src.ofNil w l 0
   | some C=>exact Src.ofSlice w l C 0 0 [] aS (λj u k=>by cases k) Bz
  .rw[n];exact Src.ofSlice w l _ 0 f [] aS (λj u k=>by cases k) Bz
 .obtain⟨b,c,q,D,E⟩:=Ex z;refine⟨b,?_,E⟩;rw[n];exact Src.ofSlice w l _ m.length f b c (λj u k=>by rw[addr_add];exact q j u k) D
def agA{I s tx}(h:(∃k,P.underlying tx=aa (.slice k))\/P.underlying tx=aa .string) :
  ∃e,Src P 1 tx (.string ⟨s.toArray⟩) (ax s).length e w/\fa w I (.int .u8) (ax s:List Int) e:=by
 have hlen:(ax s).length=(⟨s.toArray⟩:ByteArray).size:=by simp[ax,ByteArray.size]
 refine⟨byteCells ⟨s.toArray⟩,by rw[hlen];exact⟨h,λ_=>rfl,firstCells_string _ w,firstCells_string _ w.drew,by rw[byteCells_length,Fo],λu l=>by
  obtain⟨_,_,rfl⟩:=Lm.1 l;rfl⟩,λi x m=>?_⟩
 have c:(ax s)[i]?=aa x:=m;simp only[ax,Em] at c;cases g:s[i]? with
 | none=>rw[g] at c;cases c
 | some b =>
   rw[g] at c;obtain rfl:_=x:=aF c;refine⟨?_,Rz b⟩;apply DE;intro j;rw[jq];split
   .rename_i f;obtain rfl:j=0:=by simp[Ty.size] at f;exact f
    simp[byteCells,Ty.size,g]
   .rename_i f;rw[yH<|by simp[Ty.size] at f⊢;omega]
def B2{I t tx ty b e l m base sCap olds news x}(s:P.underlying t=aa (.slice b))(u:Den P e b)(v:Eu P b=true)
  (c:(Builtin.firstCells e.size l.length<|.slice base l.length sCap).run P w.drew=.ok olds.toArray w.drew) (f:olds.length=l.length*e.size) (y:fa w I e l olds)
  (h:Src P e.size tx x m.length news w) (z:fa w I e m news) (p:sCap<l.length+m.length) (A:l.length+m.length<=4294967296) :
  ∃(cap:Nat) (cells:Array Value),(Builtin.append_ #[t,tx] ty #[.slice base l.length sCap,x]).run P w=.ok (.slice (aa ⟨w.heap.size,0,af⟩) (l.length+m.length) cap) (w.drew.alloc<|.cells cells b) /\
   l.length+m.length<=cap/\cap<=maxLen/\cells.size=cap*e.size/\fa w I e (l++m) cells.toList:=by
 obtain⟨C,i,q,r,D,E⟩:=u.info;have g:=growslice_fits p (by
  have:=adf A (B1 v q);omega)
 have j:=grownCap_ge w (l.length+m.length) sCap b;have k:i.cells.size=e.size:=by rw[<-ea e,<-E];simp
 refine⟨_,_,(run_append_grow_src w t tx ty b C i s q D base l.length sCap olds (by rw[r];exact c) x m.length news (by rw[r];exact h) p ag g),j,(grownCap_le_maxLen w _ sCap b (by have:=Ez;omega)),?_,?_⟩
 .have n:=h.newsLen;have o:(Builtin.zeroCells i.cells<|grownCap w (l.length+m.length) sCap b-(l.length+m.length)).size=(grownCap w (l.length+m.length) sCap b-(l.length+m.length))*e.size:=by
   simp[Builtin.zeroCells,k]
  rw[Array.size_append,o];simp only[Lg,jt,f,n];rw[<-iF,<-iF]
  grind
 .rw[YZ];exact y.append z f h.newsLen
def bC.grow{mem}(h:bC B γ mem w){b bx}(y:mem b=aa bx){e:Ty}{l l':List e.den}(j:bx.buf=true)(C:bx.val=.data (.slice e) l){blk cap}(hl:γ.loc b=aa (blk,cap))
  {cur cur' t fr} (L:w.heap[blk]?=aa (.cells cur t fr)) (D:ThB e cur fr) (adM:bx.tid=0\/t=bx.tid) (M:cur'.size=cur.size) (E:∀o,o<l.length*e.size->cur'[o]?=cur[o]?)
  (he:0<e.size) (F:l.length<=l'.length) (aiJ:l'.length<=cap) (agB:cap<=maxLen) (G:cur.size=cap*e.size) (H:fa w γ.I e l' cur'.toList) :
  let m:Box:={ bx with val:=.data (.slice e) l',aM:=bx.aM+1 }
  bC B γ (dd mem b m) (w.setRow blk cur')/\Ext B γ mem w γ (dd mem b m) (w.setRow blk cur'):=by
 intro m;have aiK:=setRow_heap w blk cur cur' t fr L;have g:=λi r=>setRow_other w blk i cur' (r);have v:=Box.dV j C;have hx:Ext B γ mem w γ (dd mem b m) (w.setRow blk cur') :=
  { below:=⟨rfl,rfl,rfl,aS,λi r=>g i λe=>r (by rw[e];exact(h.fresh b blk cap (by rw[y];simp) hl).1)⟩
    I:=λ_ _ x=>x
    qV:=λ_ _ x=>.inl x
    cells:=λc o x=>by
     by_cases q:c=blk
     .subst q;have:=(h.sep b bx c cap o y hl x).2 j e l.length v;rw[cell_of_heap aiK,cell_of_heap L]
      grind
     .exact dH (g c q)
    boxes:=λc cx p=>by
     by_cases q:c=b
     .subst q;obtain rfl:cx=bx:=aF (p.symm.trans y);exact⟨m,bB _ _,Nat.le_succ _,λk=>absurd k (by simp[m])⟩
     .exact⟨cx,by rw[aZ _ q];exact p,bX _,λ_=>⟨rfl,rfl,rfl⟩⟩ }
 refine⟨?_,hx⟩;exact
  { tf:=h.BU hx
    base:=by have:=h.base;simpa using this
    boxes:=λc cx p=>by
     by_cases q:c=b
     .subst q;rw[bB] at p;obtain rfl:=aF p;simp only[m,j];exact⟨e,l',rfl,he,.inr ⟨blk,cap,cur',t,fr,hl,aiK,D.same M,adM,aiJ,agB,by rw[M];exact G,λi x r=>bH.mono hx.I hx.cells (H i x r)⟩⟩
     .rw[aZ _ q] at p;refine(h.boxes c cx p).keep hx rfl λf z J=>g f λQ=>q ?_;subst Q;exact h.inj c b f z cap (by rw[p];simp) (by rw[y];simp) J hl
    inj:=λc d f R S p T A U=>h.inj c d f R S (by
     by_cases e:c=b
     .subst e;rw[y];simp
     .rwa [aZ _ e] at p) (by
     by_cases e:d=b
     .grind
     .rwa [aZ _ e] at T) A U
    fresh:=λc f z p A=>by
     have:=h.fresh c f z (by
      by_cases e:c=b
      .grind
      .rwa [aZ _ e] at p) A
     simp_all
    te:=λf s r=>by have:=h.te f s r;simpa using this
    sep:=λc cx f z s p A r=>by
     by_cases q:c=b
     .subst q;rw[bB] at p;obtain rfl:=aF p;obtain⟨V,W⟩:=h.sep c bx f z s y A r;refine⟨V,λ_ u n O=>?_⟩;have K:m.row=aa _:=Box.dV j rfl;rw[K] at O;obtain⟨rfl,rfl⟩:=eh (aF O);have:=W j e l.length v;exact zf this (gN _ F)
     .rw[aZ _ q] at p;exact h.sep c cx f z s p A r }
def adQ(i:bC B γ σ.mem w){e m x v tx t0 f}(c:(∃f,P.underlying tx=aa (.slice f))\/P.underlying tx=aa .string)(j:P.underlying t0=aa (.slice f))
  (g:cu γ σ.mem w x .val [v]) (h:yL e σ x=aa m):∃b,Src P e.size tx v m.length b w/\fa w γ.I e m b:=by
 unfold yL at h;split at h
 .rename_i t;obtain⟨q,k⟩:=mn h;subst q;subst k;obtain⟨l,_⟩:=yP g;rw[l];exact agA c
 .exact agz c j (tC i g h)
def vR{α c}{t:Tree α}{y}(h:(bif c then .fail else t).run=aa y):c=false/\t.run=aa y:=by
 cases c with
 | true=>cases h
 | false=>exact⟨rfl,h⟩
def r9{base t tx ty c size x news}(g:P.underlying t=aa (.slice c))(e:(Go.sizeOf c).run P w=.ok size w)(b:Src P size tx x 0 news w) :
  (Builtin.append_ #[t,tx] ty #[.slice base 0 0,x]).run P w=.ok (.slice base 0 0) w:=by
 cases base with
 | none=>rcases b.kind with ⟨h,f⟩|f<;>simp[Builtin.append_,run_underlying g,run_underlying f,e,b.len,b.cells]
 | some i =>
   have hn:news=[]:=by have:=b.newsLen;simpa using this
   subst hn;rcases b.kind with ⟨h,f⟩|f<;>simp[Builtin.append_,run_underlying g,run_underlying f,e,b.len,b.cells,storeCells]
def DM size base:(Builtin.firstCells size 0<|.slice base 0 0).run P w=.ok #[] w:=by
 cases base with
 | none=>exact run_firstCells_none w size 0 0 0
 | some b=>exact run_firstCells_some w size 0 b 0 0 [] aS (λj v c=>by cases c)
def lQ{t tx ty e size x news n b sCap blk cur k h}(m:P.underlying t=aa (.slice e))(i:(Go.sizeOf e).run P w=.ok size w)
  (g:Src P size tx x n news w) (o:w.heap[blk]?=aa (.cells cur k h)) (j:ni cur h) (c:b+n<=sCap) (p:b*size+news.length<=cur.size) :
  (Builtin.append_ #[t,tx] ty #[.slice (aa ⟨blk,0,af⟩) b sCap,x]).run P w=.ok (.slice (aa ⟨blk,0,af⟩) (b+n) sCap) (w.setRow blk (ba cur.toList (b*size) news).toArray):=by
 have f:=dx (P:=P) blk _ k h news 0 cur w o j ag g.one;simp at f;rcases g.kind with ⟨q,l⟩|l<;>simp[Builtin.append_,run_underlying m,run_underlying l,i,g.len,c,g.cells,addr_add,f]
def EA{cs es k o}(h:o<k)(b:k<=cs.length):(ba cs k es)[o]?=cs[o]?:=by
 rw[ba,vL,Tz (by rw[dk];omega),jq,aN h]
def Hy(hc:fi P cx){nb}{t tx ty}{s x}(h:dm B N γ σ a w)(hd:∀k,d=aa k->k<N)(hk0:(∃e',P.underlying tx=aa (.slice e'))\/P.underlying tx=aa .string)
  (F:(iI cx nb d t (cW σ s) (cW σ x) σ).run=aa aQ):nU P B N γ σ a w d (Builtin.append_ #[t,tx] ty #[a.eval s,a.eval x]) aQ:=by
 have K:=h.cW s;have hvx:=h.cW x;unfold iI at F;split at F
 case h_2=>exact absurd F cg
 rename_i _ _ k e hT;obtain⟨C,S,f2,f3,f4⟩:=(hc.T _ _ hT).slice;have U:=f2.sizeOf w;split at F
 case h_2=>exact absurd F cg
 rename_i m hm;obtain⟨y,V,n2⟩:=adQ h.ok hk0 S hvx hm;split at F
 .rename_i hs;rw[hs] at K;obtain G:a.eval s=_:=by simpa [cu] using K
  obtain⟨O,W⟩:=cQ F;have O:=FN O;obtain⟨aM,D,hr3⟩:=dQ W;obtain rfl:=aF hr3;rw[G];rcases Y3 m.length with A|A
  .obtain rfl:m=[]:=yG.1 A;obtain⟨m1,p⟩:=h.ok.Hq D f4;refine⟨_,_,_,r9 S U V,h.step p m1 (hd k rfl) ?_,p⟩;exact⟨⟨_,rfl,rfl⟩,fY (bB _ _) rfl ⟨e,0,rfl,rfl,.inl ⟨by simp[bK],rfl⟩⟩⟩
  .obtain⟨g,f,g1,g2,M,g4,g5⟩:=B2 (l:=([])) (sCap:=0) (olds:=[]) S f2 f3 (by simpa using run_firstCells_none w.drew e.size 0 0 0) aS (λi x hx=>by cases hx) V n2
    (by simpa using A) (by simpa using O)
   simp at g1 g2 g5;obtain⟨m1,p⟩:=h.ok.LC D f4 ((vD.refl B w).drew.alloc h.ok.base _) (da w.drew _) (heap_alloc_new w.drew _) (wX _ _) (.inl rfl) g2 M g4 g5;refine⟨_,_,_,g1,h.step p m1 (hd k rfl) ?_,p⟩;exact zt rfl rfl
 .rename_i b aM hs;rw[hs] at K;split at F
  case h_2=>exact absurd F cg
  rename_i bx l X hl;obtain⟨uS,hb',D,c,Y⟩:∃bx,σ.mem b=aa bx/\bx.aM=aM/\bx.buf=true/\bx.val=.data (.slice e) l:=by
   rcases nW hl with q|⟨q,_⟩|⟨b',aok,uS,q,h1,Q,h3,h4⟩|⟨_,_,_,_,_,q,_⟩
   .cases q
   .cases q
   .grind
   .cases q
  obtain rfl:bx=uS:=aF (X.symm.trans hb')
  .obtain⟨hlk,hr1⟩:=vR F;obtain⟨O,W⟩:=cQ hr1;obtain rfl:=aF W;have O:l.length+m.length<=4294967296:=by
    have:fits (((l.length+m.length)):Int)=true:=by rw[<-O];simp[plus,len]
    exact FN this
   have R:bx.tid=0\/C=bx.tid:=by
    simp at hlk;have Q:=hlk.2;unfold aiE at Q;simp at Q;rcases Q with Q|Q
    .simp_all
    .split at Q
     .rename_i e' he';have:=hc.els _ _ he';simp_all
     .cases Q
   subst D;obtain⟨e2,n2',g1,g2,M⟩:=bk X rfl K.2;rw[Box.dV c Y] at g2;obtain⟨rfl,rfl⟩:=eh (aF g2);have hat:=h.ok.boxes b bx X;rw[ew,c] at hat;obtain⟨e3,l3,q1,q2,Z⟩:=hat;rw[Y] at q1;cases q1;have r:(app l m).length=l.length+m.length:=jt;rcases M with ⟨M,g4⟩|⟨E,g,M,g4⟩
   .obtain G:a.eval s=_:=by simpa using g4
    have hl0:l=[]:=by
     grind
    subst hl0;rw[G];rcases Y3 m.length with A|A
    .obtain rfl:m=[]:=yG.1 A;have H:ew (bK γ b af) (dd σ.mem b { bx with val:=.data (.slice e) ([]:List e.den),aM:=bx.aM+1 }) w b { bx with val:=.data (.slice e) ([]:List e.den),aM:=bx.aM+1 }:=by
      simp only[c];exact⟨e,[],rfl,f4,.inl ⟨by simp[bK],rfl⟩⟩
     have z:∀n,σ.mem b=aa n->n.aM<bx.aM+1:=λn A=>by rw[X] at A;obtain rfl:=aF A;omega
     have m1:=h.ok.add z (vD.refl B w) (λ_ _=>rfl) (λE k e=>by cases e) H;have p:=vQ (L:=af) h.ok (bx:={ bx with val:=.data (.slice e) ([]:List e.den),aM:=bx.aM+1 }) z (vD.refl B w) (λ_ _=>rfl);refine⟨_,_,_,r9 S U V,h.step p m1 (hd k rfl) ?_,p⟩;exact⟨⟨_,rfl,rfl⟩,fY (bB _ _) rfl ⟨e,0,c,Box.dV (bx:={ bx with val:=.data (.slice e) ([]),aM:=bx.aM+1 }) c rfl,.inl ⟨by simp[bK],rfl⟩⟩⟩
    .obtain⟨g,f,j1,j2,j3,j4,j5⟩:=B2 (I:=γ.I) (ty:=ty) (l:=([])) S f2 f3 (by simpa using DM e.size af) aS (λi x hx=>by cases hx) V n2
      (by simpa using A) (by simpa using O)
     have z:∀n,σ.mem b=aa n->n.aM<bx.aM+1:=λn A=>by rw[X] at A;obtain rfl:=aF A;omega
     have hw:vD B w (w.drew.alloc<|.cells f C):=(vD.refl B w).drew.alloc h.ok.base _;have p:=vQ (L:=aa (w.heap.size,g)) h.ok (bx:={ bx with val:=.data (.slice e) (app (α:=e.den) [] m),aM:=bx.aM+1 }) z hw (da w.drew _);have H:ew (bK γ b<|some (w.heap.size,g)) (dd σ.mem b { bx with val:=.data (.slice e) (app (α:=e.den) [] m),aM:=bx.aM+1 }) (w.drew.alloc<|.cells f C) b { bx with val:=.data (.slice e) (app (α:=e.den) [] m),aM:=bx.aM+1 }:=by
      simp only[c];exact⟨e,_,rfl,f4,.inr ⟨w.heap.size,g,f,C,_,by simp[bK],heap_alloc_new w.drew _,wX _ _,R,by rw[r];exact j2,j3,j4,λi x hi=>bH.mono p.I p.cells (j5 i x hi)⟩⟩
     have m1:=h.ok.add (L:=aa _) z hw (da w.drew _) (λE k e=>by obtain⟨rfl,rfl⟩:=eh (aF e);exact⟨bX _,(wL.1<|heap_alloc_new w.drew _).1⟩) H;refine⟨_,_,_,j1,h.step p m1 (hd k rfl) ?_,p⟩;exact zt c (by rw[<-r];exact Box.dV c rfl)
   .obtain G:a.eval s=_:=by simpa using g4
    rw[G];rcases Z with ⟨Z,_⟩|⟨LJ,W1,u,tid,fr,Z,q4,q5,akm,q6,q7,q8,q9⟩
    .rw[M] at Z;cases Z
    rw[M] at Z;obtain⟨rfl,rfl⟩:=eh (aF Z);have hcl:u.toList.length=g*e.size:=by simpa using q8
    have hlc:l.length*e.size<=g*e.size:=gN _ q6;rcases rR g _ with hgt|hle
    .have hfc:=run_firstCells_some (P:=P) w.drew e.size l.length ⟨E,0,af⟩ l.length g (u.toList.take<|l.length*e.size) (by rw[dk];omega) (λj v hj=>by
      rw[addr_add];show w.cell? ⟨E,0+j,af⟩=aa v
      rw[cell_of_heap q4];rw[jq] at hj;split at hj
      .grind
      .cases hj)
     obtain⟨J,f,j1,j2,j3,j4,j5⟩:=B2 S f2 f3 hfc (by rw[dk];omega) (fa.front q9 (bX _) ag) V n2 hgt O;have z:∀n,σ.mem b=aa n->n.aM<bx.aM+1:=λn A=>by rw[X] at A;obtain rfl:=aF A;omega
     have hw:vD B w (w.drew.alloc<|.cells f C):=(vD.refl B w).drew.alloc h.ok.base _;have p:=vQ (L:=aa (w.heap.size,J)) h.ok (bx:={ bx with val:=.data (.slice e) (app (α:=e.den) l m),aM:=bx.aM+1 }) z hw (da w.drew _);have H:ew (bK γ b<|some (w.heap.size,J)) (dd σ.mem b { bx with val:=.data (.slice e) (app (α:=e.den) l m),aM:=bx.aM+1 }) (w.drew.alloc<|.cells f C) b { bx with val:=.data (.slice e) (app (α:=e.den) l m),aM:=bx.aM+1 }:=by
      simp only[c];exact⟨e,_,rfl,f4,.inr ⟨w.heap.size,J,f,C,_,by simp[bK],heap_alloc_new w.drew _,wX _ _,R,by rw[r];exact j2,j3,j4,λi x hi=>bH.mono p.I p.cells (j5 i x hi)⟩⟩
     have m1:=h.ok.add z hw (da w.drew _) (λE k e=>by obtain⟨rfl,rfl⟩:=eh (aF e);exact⟨bX _,(wL.1<|heap_alloc_new w.drew _).1⟩) H;refine⟨_,_,_,j1,h.step p m1 (hd k rfl) ?_,p⟩;exact zt c (by rw[<-r];exact Box.dV c rfl)
    .have hnl:=V.newsLen;have hmul:_*e.size<=g*e.size:=gN _ hle;rw[iF] at hmul;have hlen:l.length*e.size+y.length<=u.toList.length:=by rw[hnl,hcl];exact hmul
     have aiN:=lQ (ty:=ty) S U V q4 q5.th hle (by simpa using hlen);have alO:(ba u.toList (l.length*e.size) y).toArray.size=u.size:=by have:=bP hlen;simpa using this
     obtain⟨m1,p⟩:=h.ok.grow X c Y M q4 q5 akm (cur':=(ba u.toList _ y).toArray) (l':=app l m) alO (λo ho=>by
      have:=EA (es:=y) ho (by omega:l.length*e.size<=u.toList.length);simpa using this) f4 ag (by rw[r];exact hle) q7 q8 (by
      have:=(fa.front q9 (bX _) (by omega:l.length*e.size<=u.toList.length)).append (rest:=u.toList.drop (l.length*e.size+y.length)) n2 (by rw[dk];omega) hnl;exact this)
     refine⟨_,_,γ,aiN,h.step p m1 (hd k rfl) ?_,p⟩;exact⟨⟨_,rfl,rfl⟩,fY (bB _ _) rfl ⟨e,l.length+m.length,c,by rw[<-r];exact Box.dV (bx:={ bx with val:=.data (.slice e) _,aM:=bx.aM+1 }) c rfl,.inr ⟨E,g,M,rfl⟩⟩⟩
 .exact absurd F cg
end
end Go.Ge
namespace Go.Ge
open RowKit
def jV(w:World)(I:Nat->Nat->Prop):(A:Ty)->A.den->List Value->Prop
 | .pair t r,x,vs=>∃c b,vs=cZ t c::b/\bH w I t x.1 c/\jV w I r x.2 b
 | .unit,_,vs=>vs=[]
 | _,_,_=>False
def lR(w:World)(I:Nat->Nat->Prop)(R:Ty)(y:R.den)(v:Value):Prop:=cu ⟨I,λ_=>af⟩ (λ_=>af) w (rS R y) .val [v]
structure Holds (P:Program) (G:DV) (f:Nat) (c:Rh):Prop where
 body:∃fn code,P.funcs[f]?=aa fn/\(fn.name == "runtime.NumGoroutine")=false/\fn.body=aa code
 calls:∀(I:Nat->Nat->Prop) (w:World) (args:Array Value) (x:c.A.den) (y:c.R.den),(∀b o,I b o->b<w.heap.size)->Et G w->jV w I c.A x args.toList->c.spec x=aa y ->
  Calls P f args w λe w'=>∃v I',e=.returned v/\Below w.heap.size w w'/\(∀b o,I b o->I' b o)/\(∀b o,I' b o->b<w'.heap.size)/\(∀b o,I' b o->¬I b o->w.heap.size<=b)/\lR w' I' c.R y v
def Ar(P:Program)(G:DV)(g:String)(c:Rh):Prop :=
 ∀(I:Nat->Nat->Prop) (w:World) (v:Value) (i:List Value) (x:c.A.den) (y:c.R.den),(∀b o,I b o->b<w.heap.size)->Et G w->jV w I c.A x (v::i)->c.spec x=aa y ->
  ∃f u,(callMethod v g i.toArray).run P w=(callFunc f (u::i).toArray).run P w/\(∃k h,P.funcs[f]?=aa k/\(k.name == "runtime.NumGoroutine")=false/\k.body=aa h) /\
  Calls P f (u::i).toArray w λe w'=>∃v j,e=.returned v/\Below w.heap.size w w'/\(∀b o,I b o->j b o)/\(∀b o,j b o->b<w'.heap.size)/\(∀b o,j b o->¬I b o->w.heap.size<=b)/\lR w' j c.R y v
def LP{P G name B R}:Ar P G name ⟨.pair .BM B,R,λ_=>af⟩:=λI w v b x y _ _ _ h=>by cases h
def nY{P G name}{u f:Nat}{a r B R:Ty}{s:a.den×B.den->Option R.den}{t:r.den×B.den->Option R.den}(h:Holds P G f ⟨.pair a B,R,s⟩)
  (n:∀v w,(method (P.types.size+Made.depth) u v name).run P w=.ok (f,v) w) (K:r.isAgg=false) (o:Ar P G name ⟨.pair r B,R,t⟩) :
  Ar P G name ⟨.pair (.alt u a r) B,R,λx=>pick (λy=>s (y,x.2)) (λz=>t (z,x.2)) x.1⟩:=by
 intro I w v b x y g i A hs;obtain⟨C,D⟩:=x;obtain⟨E,j,F,k,l⟩:=A;obtain⟨m,rfl⟩:=adh F;rcases C with p|q
 .obtain⟨L,c,rfl,H⟩:=k;refine⟨f,cZ a c,?_,h.body,h.calls I w (cZ a c::b).toArray _ y g i ⟨c,b,rfl,H,l⟩ hs⟩;have J:v=.iface u (cZ a c):=by
   rw[m];show cZ r [Value.iface u _]=_
   unfold cZ
   grind
  rw[J];have e:=n (cZ a c) w;unfold callMethod;simp only[Sem.run_bind,run_program,Result.andThen_ok,e];simp
 .exact o I w v b (q,D) y g i ⟨E,b,by rw[m];rfl,k,l⟩ hs
def bC.far{B γ mem w w'}(h:bC B γ mem w)(e:Below w.heap.size w w'){I'}(n:∀b o,γ.I b o->I' b o)(j:∀b o,I' b o->b<w'.heap.size)
  (f:∀b o,I' b o->¬γ.I b o->w.heap.size<=b):bC B ⟨I',γ.loc⟩ mem w'/\Ext B γ mem w ⟨I',γ.loc⟩ mem w':=by
 have hx:Ext B γ mem w ⟨I',γ.loc⟩ mem w' :=
  { below:=.of ⟨e.os,e.tape,e.output,e.size,λk p=>e.block k (zf p h.base)⟩
    I:=n
    qV:=λb o x=>by
     by_cases hi:γ.I b o
     .grind
     .exact .inr (.inl<|gi h.base<|f b o x hi)
    cells:=λb o hi=>dH (e.block b<|h.te b o hi)
    boxes:=λb l hb=>⟨l,hb,bX _,λ_=>⟨rfl,rfl,rfl⟩⟩ }
 refine⟨?_,hx⟩;exact
  { tf:=h.BU hx
    base:=gi h.base e.size
    boxes:=λb l hb=>(h.boxes b l hb).keep hx rfl λc k i=>e.block c (h.fresh b c k (by rw[hb];simp) i).2
    inj:=h.inj
    fresh:=λb c k hb i=>by have:=h.fresh b c k hb i;exact⟨this.1,zf this.2 e.size⟩
    te:=j
    sep:=λb l c k g hb i hi=>by
     by_cases m:γ.I c g
     .exact h.sep b l c k g hb i m
     .have q:=f c g hi m;have r:=(h.fresh b c k (by rw[hb];simp) i).2;omega }
def aaI{w γ bz mem mem'}(f:∀b o,γ.I b o->bz.I b o):∀{R y vs},cu γ mem w (BO R y) .many vs->cu bz mem' w (BO R y) .many vs:=by
 intro R;induction R with
 | pair t r g e =>
   intro y vs h;obtain⟨v,c,i,⟨j,k,l⟩,m⟩:=h;exact⟨v,c,i,⟨j,bH.mono f (λ_ _ _=>rfl) k,l⟩,e m⟩
 | _=>intro y vs h;exact h
def FP(R:Ty) y:(∃t,∃q:R=.pair t .unit,rS R y=.data t (show(Ty.pair t .unit).den from q▸y).1)\/rS R y=.BI (BO R y):=by
 cases R with
 | pair t r =>
   cases r with
   | unit=>exact .inl ⟨t,rfl,rfl⟩
   | _=>exact .inr rfl
 | _=>exact .inr rfl
def lR.rep{w I R y v}(h:lR w I R y v){γ mem}(i:∀b o,I b o->γ.I b o):cu γ mem w (rS R y) .val [v]:=by
 unfold lR at h;rcases FP R y with ⟨t,q,c⟩|c
 .rw[c] at h⊢;obtain⟨j,e,f⟩:=h;exact⟨j,bH.mono i (λ_ _ _=>rfl) e,f⟩
 .rw[c] at h⊢;obtain⟨g,e,f⟩:=h;exact⟨g,e,aaI i f⟩
def LQ{w w' γ bz mem mem'}:∀{R y vs},R.flat=true->cu γ mem w (BO R y) .many vs->cu bz mem' w' (BO R y) .many vs:=by
 intro R;induction R with
 | pair t r f e =>
   intro y vs c h;simp only[Ty.flat,gz] at c;obtain⟨v,b,g,⟨i,j,k⟩,l⟩:=h;exact⟨v,b,g,⟨i,bH.flat c.1 j,k⟩,e c.2 l⟩
 | _=>intro y vs c h;exact h
def lR.flat{w w' I R y v}(h:lR w I R y v){γ mem}(b:R.flat=true):cu γ mem w' (rS R y) .val [v]:=by
 unfold lR at h;rcases FP R y with ⟨t,q,c⟩|c
 .rw[c] at h⊢;subst q;simp only[Ty.flat,gz] at b;obtain⟨i,e,f⟩:=h;exact⟨i,bH.flat b.1 e,f⟩
 .rw[c] at h⊢;obtain⟨g,e,f⟩:=h;exact⟨g,e,LQ b f⟩
section
variable {P:Program} {B:BT} {N:Nat} {γ:Gh} {σ aQ:St} {a:Act} {w w':World} {d:Option Nat} {cx:Ctx}
def BW.alP{I I' e l v}(h:BW w I e l v)(s:∀b o,I b o->I' b o)(t:∀f g k,v=.slice (aa ⟨f,g,af⟩) l.length k->l≠[]->∀o,I' f o) :
  bH w I' (.slice e) l [v]:=by
 rcases h with ⟨rfl,m,k,n,q,r⟩|⟨f,g,k,n,q,r,u⟩
 .rcases r with rfl|⟨f,g,rfl⟩
  .exact .inl ⟨⟨m,by rw[n]⟩,rfl⟩
  .exact .inr ⟨f,g,k,by rw[n];rfl,pF _,q,λi x p=>by cases p⟩
 .refine .inr ⟨f,g,k,by rw[n],q,r,λi x p=>?_⟩;obtain⟨y,z,A,C⟩:=u i x p;exact⟨y,z,λj c D=>⟨A j c D,t f g k n (λe=>by rw[e] at p;cases p) _⟩,bH.mono s (λ_ _ _=>rfl) C⟩
def RA(x:bC B γ σ.mem w){e v l blk off n cap}(y:cu γ σ.mem w v .val [.slice (aa ⟨blk,off,af⟩) n cap])(D:jx e σ v=aa l)(j:l≠[]) :
  (∃q,v=.data (.slice e) q)\/(B.has blk/\blk<w.heap.size):=by
 rcases nW D with rfl|⟨rfl,rfl⟩|⟨b,r,E,rfl,m,f,z,F⟩|⟨b,r,K,L,E,rfl,m,f,s⟩
 .exact .inl ⟨_,rfl⟩
 .exact absurd rfl j
 .obtain⟨G,k,M,H,o⟩:=bk m f y.2;rcases o with ⟨o,A⟩|⟨g,h,o,A⟩
  .grind
  .have i:blk=g:=by
    grind
   subst i;exact .inr (x.fresh b blk h (by rw[m];simp) o)
 .obtain⟨G,k,H,o,A,O,C,h,I,Q,R,S,p⟩:=bk m f y.2;have t:=vk I;rcases p with p|⟨g,c,p,u⟩
  .exfalso;apply j;rcases s with ⟨_,J,_,rfl⟩|⟨_,T,J,_,rfl⟩<;>simp[sub,p]
  .injection t with i _ _
   rw[u] at i;injection i with i
   injection i with i _
   subst i;exact .inr (x.fresh b blk c (by rw[m];simp) p)
def EB(F:bC B γ σ.mem w){I'}(G:∀b o,γ.I b o->I' b o)(J:∀b o,B.has b->b<w.heap.size->I' b o):∀{v t x cs},
  cu γ σ.mem w v .cells cs->td σ t v=aa x->bH w I' t x cs:=by
 have m:∀{v e l cs},dS v=1->(∀c,cu γ σ.mem w v .cells [c]->cu γ σ.mem w v .val [c])->(∀t x,v≠.data t x)->cu γ σ.mem w v .cells cs->jx e σ v=aa l->bH w I' (.slice e) l cs:=by
  intro v e l cs A i K h f;obtain⟨c,rfl⟩:=IY h A;have hv:=i c h;refine(tC F hv f).alP G λL M O Q C o=>?_;subst Q;rcases RA F hv f C with ⟨q,j⟩|⟨H,W⟩
  .grind
  .grind
 intro v;induction v with
 | data u y =>
   intro t x cs h f;have key:(∃q:u=t,x=q▸y):=by
    cases t with
    | slice e =>
      rcases nW f with g|⟨g,_⟩|⟨_,_,_,g,_⟩|⟨_,_,_,_,_,g,_⟩
      .injection g with R S;subst R;exact⟨rfl,(eq_of_heq S).symm⟩
      .cases g
      .cases g
      .cases g
    | _=>exact Ty.lO f
   obtain⟨q,j⟩:=key;subst q;subst j;exact bH.mono G (λ_ _ _=>rfl) h
 | mix p q D E =>
   intro t x cs h f;cases t with
   | pair s r =>
     obtain⟨T,U,rfl,A,H⟩:=h;obtain⟨y,z,V,j,rfl⟩:=FK f;exact⟨T,U,rfl,D A V,E H j⟩
   | slice e=>exact absurd f cg
   | _=>cases f
 | pN =>
   intro t x cs h f;cases t with
   | slice e=>exact m (v:=.pN) rfl (λc k=>k) (λ_ _=>aS) h f
   | _=>cases f
 | whole b aM =>
   intro t x cs h f;cases t with
   | slice e=>exact m (v:=.whole b aM) rfl (λc k=>k) (λ_ _=>aS) h f
   | _=>cases f
 | part b aM lo n =>
   intro t x cs h f;cases t with
   | slice e=>exact m (v:=.part b aM lo n) rfl (λc k=>k) (λ_ _=>aS) h f
   | _=>cases f
 | uP =>
   intro t x cs h f;obtain rfl:cs=[.nilIface]:=h;exact(rm f).1 _ _
 | _ =>
   intro t x cs h f;cases t with
   | slice e=>exact absurd f cg
   | _=>cases f
def LR(j:bC B γ σ.mem w){I'}(k:∀b o,γ.I b o->I' b o)(h:∀b o,B.has b->b<w.heap.size->I' b o){v t x val}
  (f:cu γ σ.mem w v .val [val]) (c:td σ t v=aa x):∃i,bH w I' t x i/\val=cZ t i:=by
 have one:∀{v},cu γ σ.mem w v .cells [val]->(∃e,t=.slice e)->td σ t v=aa x->∃i,bH w I' t x i/\val=cZ t i:=by
  intro v z A c;obtain⟨e,rfl⟩:=A;exact⟨[val],EB j k h z c,rfl⟩
 cases v with
 | data u y =>
   obtain⟨i,l,m⟩:=ej.1 f;have z:=EB j k h (v:=.data u y) l c;rw[m];have:u.isAgg=t.isAgg:=by
    cases t with
    | slice e =>
      rcases nW c with g|⟨g,_⟩|⟨_,_,_,g,_⟩|⟨_,_,_,_,_,g,_⟩
      .injection g with C G;rw[C]
      .cases g
      .cases g
      .cases g
    | _=>obtain⟨q,_⟩:=Ty.lO c;rw[q]
   unfold cZ
   grind
 | mix p q =>
   obtain⟨D,E,F,l,m⟩:=f;obtain rfl:val=_:=by simpa using F
   refine⟨_,(EB j k h (v:=.mix p q) ⟨D,E,rfl,l,m⟩ c),?_⟩;cases t with
   | pair s r=>rfl
   | slice e=>exact absurd c cg
   | _=>cases c
 | pN=>cases t with
   | slice e=>exact one f ⟨e,rfl⟩ c
   | _=>cases c
 | whole b aM=>cases t with
   | slice e=>exact one f ⟨e,rfl⟩ c
   | _=>cases c
 | part b aM lo n=>cases t with
   | slice e=>exact one f ⟨e,rfl⟩ c
   | _=>cases c
 | uP =>
   have f:[val]=[Value.nilIface]:=f;obtain rfl:val=.nilIface:=by simpa using f
   exact⟨[.nilIface],(rm c).1 _ _,(rm c).2.2.1.symm⟩
 | _=>cases t with
   | slice e=>exact absurd c cg
   | _=>cases c
def lS(e:Gh)(mem:Nat->Option Box)(w:World)(b:List ch)(c:List Value):Prop:=c.length=b.length/\∀(i:Nat) v x,b[i]?=aa v->c[i]?=aa x->cu e mem w v .val [x]
def lS.cons{mem v vs b}(h:lS γ mem w (v::vs) b):∃x r,b=x::r/\cu γ mem w v .val [x]/\lS γ mem w vs r:=by
 cases b with
 | nil=>cases h.1
 | cons x r=>exact⟨x,r,rfl,h.2 0 v x rfl rfl,by simpa using h.1,λi c e f g=>h.2 (i+1) c e f g⟩
def lS.ext{mem mem' bz vs b}(h:lS γ mem w vs b)(c:Ext B γ mem w bz mem' w'):lS bz mem' w' vs b:=⟨h.1,λi v x e f=>(h.2 i v x e f).ext c⟩
def Ow(j:bC B γ σ.mem w){I'}(k:∀b o,γ.I b o->I' b o)(g:∀b o,B.has b->b<w.heap.size->I' b o):∀{A x vs e},
  lS γ σ.mem w vs e->jk σ A vs=aa x->jV w I' A x e:=by
 intro A;induction A with
 | pair t r l i =>
   intro x vs e h c;cases vs with
   | nil=>cases c
   | cons v vs =>
     obtain⟨y,f,rfl,m,n⟩:=h.cons;simp only[jk] at c;split at c
     .rename_i p q s u;obtain rfl:=aF c;obtain⟨z,C,D⟩:=LR j k g m s;exact⟨z,f,by rw[D],C,i n u⟩
     .cases c
 | unit =>
   intro x vs e h c;cases vs with
   | nil=>exact yG.1 h.1
   | cons v vs=>cases c
 | _=>intro x vs e h c;cases vs<;>cases c
def kn:∀{A x vs c σ aQ γ},dm B N γ σ a w->lS γ σ.mem w vs c->gD σ A vs=aa (x,aQ) ->
  ∃bz,dm B N bz aQ a w/\Ext B γ σ.mem w bz aQ.mem w/\jV w bz.I A x c:=by
 intro A;induction A with
 | pair t r m g =>
   intro x vs c σ aQ γ h f b;cases vs with
   | nil=>cases b
   | cons v vs =>
     obtain⟨y,e,rfl,n,o⟩:=f.cons;simp only[gD] at b;split at b
     .rename_i p bL s;split at b
      .rename_i q cI u;obtain⟨rfl,rfl⟩:=eh (aF b);obtain⟨z,C,l,D,E,i⟩:=nX h n s;obtain i:y=_:=by simpa using i
       obtain⟨j,F,k,G⟩:=g C (o.ext l) u;exact⟨j,F,l.trans k,D,e,by rw[i],bH.mono k.I k.cells E,G⟩
      .cases b
     .cases b
 | unit =>
   intro x vs c σ aQ γ h f b;cases vs with
   | nil=>obtain⟨rfl,rfl⟩:=eh (aF b);exact⟨γ,h,Ext.refl _ _ _ _,yG.1 f.1⟩
   | cons v vs=>cases b
 | _=>intro x vs c σ aQ γ h f b;cases vs<;>cases b
def adR(w:World)(I:Nat->Nat->Prop)(t:Ty)(x:t.den)(c:Nat):Prop:=∃b tid e,w.heap[c]?=aa (.cells b tid e)/\ni b e/\bH w I t x b.toList
def sa(w:World)(I:Nat->Nat->Prop):(U:Ty)->U.den->List Nat->Prop
 | .pair t U,u,c=>∃b r,c=b::r/\adR w I t u.1 b/\sa w I U u.2 r
 | .unit,_,c=>c=[]
 | _,_,_=>False
def PW(w:World)(I:Nat->Nat->Prop):List Bool->(A U:Ty)->A.den->List Value->List Nat->Prop
 | [],A,U,_,vs,c=>A=.unit/\U=.unit/\vs=[]/\c=[]
 | false::ps,A,U,x,vs,c=>match A,x with
   | .pair t A,x=>∃f b,vs=cZ t f::b/\bH w I t x.1 f/\PW w I ps A U x.2 b c
   | _,_=>False
 | true::ps,A,U,x,vs,c=>match U with
   | .pair _ U=>∃e b r,vs=.pointer (aa ⟨e,0,af⟩)::b/\c=e::r/\PW w I ps A U x b r
   | _=>False
structure RB (P:Program) (G:DV) (f:Nat) (c:TW):Prop where
 body:∃fn code,P.funcs[f]?=aa fn/\(fn.name == "runtime.NumGoroutine")=false/\fn.body=aa code
 calls:∀(I:Nat->Nat->Prop) (w:World) (args:Array Value) (bs:List Nat) (x:c.A.den) (u:c.U.den) (y:c.R.den×c.U.den),(∀b o,I b o->b<w.heap.size)->Et G w->(∀b Q,G b Q->b∉bs)->PW w I c.ps c.A c.U x args.toList bs->sa w I c.U u bs->bs.Nodup ->
  (∀blk∈bs,∀o,¬I blk o)->c.spec (x,u)=aa y ->
  Calls P f args w λe w'=>∃v I',e=.returned v/\vD ⟨w.heap.size,(·∈bs),G⟩ w w'/\(∀b o,I b o->I' b o)/\(∀b o,I' b o->b<w'.heap.size)/\(∀b o,I' b o->¬I b o->w.heap.size<=b)/\lR w' I' c.R y.1 v/\sa w' I' c.U y.2 bs
def adS(w:World)(I:Nat->Nat->Prop)(T:Nat)(t:Ty)(r:t.den)(F:Nat)(h:List Nat)(e:Nat):Prop :=
 ∃c tid f g,w.heap[e]?=aa (.cells c tid f)/\ni c f/\(T=0\/tid=T)/\c.toList=g++[.func (.func F) #[] (h.map λb=>Value.pointer (aa ⟨b,0,af⟩)).toArray]/\bH w I t r g
structure kR (P:Program) (G:DV) (f:Nat) (c:Fq):Prop where
 body:∃fn code,P.funcs[f]?=aa fn/\(fn.name == "runtime.NumGoroutine")=false/\fn.body=aa code
 calls:∀(I:Nat->Nat->Prop) (w:World) (args:Array Value) (rest:List Value) (blk:Nat) (bs:List Nat) (r:c.t.den) (x:c.A.den) (u:c.U.den) (y:c.R.den×c.U.den),(∀b o,I b o->b<w.heap.size)->Et G w->(∀b Q,G b Q->b∉blk::bs) ->
  args.toList=.pointer (aa ⟨blk,0,af⟩)::rest->jV w I c.A x rest->adS w I c.T c.t r c.F bs blk->sa w I c.U u bs->(blk::bs).Nodup->(∀k∈blk::bs,∀o,¬I k o)->c.spec ((r,x),u)=aa y ->
  Calls P f args w λe w'=>∃v I',e=.returned v/\vD ⟨w.heap.size,(·∈blk::bs),G⟩ w w'/\(∀b o,I b o->I' b o)/\(∀b o,I' b o->b<w'.heap.size)/\(∀b o,I' b o->¬I b o->w.heap.size<=b)/\lR w' I' c.R y.1 v/\sa w' I' c.U y.2 bs/\adS w' I' c.T c.t r c.F bs blk
structure x6 (og:Option Nat) (w w':World):Prop where
 os:w'.os=w.os
 tape:w'.tape=w.tape
 output:w'.output=w.output
 size:w.heap.size<=w'.heap.size
 block:∀k,k<w.heap.size->og≠aa k->w'.heap[k]?=w.heap[k]?
 cell:∀k o,k<w.heap.size->w'.cell? ⟨k,o,af⟩=w.cell? ⟨k,o,af⟩
def w9(w:World)(I:Nat->Nat->Prop)(e:Ty)(l:List e.den)(L:Option (Nat×Nat))(v:Value):Prop :=
 (L=af/\l=[]/\v=.slice af 0 0)\/∃c b f tid g,L=aa (c,b)/\v=.slice (aa ⟨c,0,af⟩) l.length b/\w.heap[c]?=aa (.cells f tid g)/\ThB e f g /\
  l.length<=b/\b<=maxLen/\f.size=b*e.size/\(∀o,¬I c o)/\∀(i:Nat) (x:e.den),l[i]?=aa x->bH w I e x ((f.toList.drop<|i*e.size).take e.size)
structure lT (w:World) (I:Nat->Nat->Prop) (X:Nat->Prop) (w':World) (I':Nat->Nat->Prop):Prop where
 below:vD ⟨w.heap.size,X,dc⟩ w w'
 held:∀b o,I b o->I' b o
 te:∀b o,I' b o->b<w'.heap.size
 qV:∀b o,I' b o->¬I b o->w.heap.size<=b
def pA(P:Program)(f:Nat):Spc->Prop
 | .chk T=>(∃i h,P.funcs[f]?=aa i/\(i.name == "runtime.NumGoroutine")=false/\i.body=aa h) /\
  ∀(w:World) (b:Nat) (p v:Value) (r:Nat×Nat),w.heap[b]?=aa (.cells #[p,v] T r)->¬(r.1<=0/\0<r.2)->(p=.pointer af\/p=.pointer (aa ⟨b,0,af⟩)) ->
   Calls P f #[.pointer<|some ⟨b,0,af⟩] w λe w'=>e=.returned (.tuple #[])/\(w'=w\/w'=w.setRow b #[.pointer<|some ⟨b,0,af⟩,v])
 | .str T E=>(∃i h,P.funcs[f]?=aa i/\(i.name == "runtime.NumGoroutine")=false/\i.body=aa h) /\
  ∀(w:World) (b:Nat) (p v:Value) (r:Nat×Nat) (l:bg) (s:Option Nat),w.heap[b]?=aa (.cells #[p,v] T r) ->
   ((s=af/\v=.slice af 0 0/\l=[])\/∃(g cap:Nat) (cur:Array Value) (fr':Nat×Nat),s=aa g/\v=.slice (aa ⟨g,0,af⟩) l.length cap/\w.heap[g]?=aa (.cells cur E fr')/\l.length<=cap/\cap<=maxLen/\cur.size=cap/\∀(j:Nat) (x:UInt8),l[j]?=aa x->cur[j]?=aa (Value.int .u8 x.toNat)) ->
   Calls P f #[.pointer<|some ⟨b,0,af⟩] w λe w'=>e=.returned (.string ⟨l.toArray⟩)/\x6 s w w'
 | .clone e=>(∃i h,P.funcs[f]?=aa i/\(i.name == "runtime.NumGoroutine")=false/\i.body=aa h) /\
  ∀(I:Nat->Nat->Prop) (w:World) (args:Array Value) (l:List e.den),(∀b o,I b o->b<w.heap.size)->jV w I (.pair (.slice e) .unit) (l,()) args.toList->fits (len l)=true ->
   Calls P f args w λq w'=>∃v n L,q=.returned v/\lT w I (λ_=>False) w' n/\w9 w' n e l L v/\∀m c,L=aa (m,c)->w.heap.size<=m
 | .own e A res spec=>(∃i h,P.funcs[f]?=aa i/\(i.name == "runtime.NumGoroutine")=false/\i.body=aa h) /\
  ∀(I:Nat->Nat->Prop) (w:World) (args:Array Value) (v:Value) (rest:List Value) (l l':List e.den) (L:Option (Nat×Nat)) (x:A.den),(∀b o,I b o->b<w.heap.size)->args.toList=v::rest->w9 w I e l L v->jV w I A x rest->spec l x=aa l' ->
   Calls P f args w λq w'=>∃n,lT w I (λk=>∃c,L=aa (k,c)) w' n /\
    match res with
    | true=>∃t u,q=.returned t/\w9 w' n e l' u t/\∀m c,u=aa (m,c)->(∃c,L=aa (m,c))\/w.heap.size<=m
    | false=>q=.returned (.tuple #[])/\l'.length=l.length/\w9 w' n e l' L v
structure nZ (P:Program) (G:DV) (cx:Ctx):Prop where
 TX:∀f c,find cx.TX f=aa c->Holds P G f c
 Ol:∀f c,find cx.Ol f=aa c->RB P G f c
 PL:∀f s,find cx.PL f=aa s->pA P f s
 inv:∀name c,PM cx.inv name=aa c->Ar P G name c
 Ri:∀f c,find cx.Ri f=aa c->kR P G f c
def Refs(i:Gh)(e:Nat->Option Box):(U:Ty)->U.den->List Nat->List Nat->Prop
 | .pair t U,u,g,h=>∃b r f q c k,g=b::r/\h=f::q/\b∉r/\e b=aa c/\c.buf=false/\c.lk=false/\(c.ro=false/\c.tid=0)/\c.val=.data t u.1/\i.loc b=aa (f,k)/\Refs i e U u.2 r q
 | .unit,_,g,h=>g=[]/\h=[]
 | _,_,_,_=>False
def B3{l t}:cU l t=true↔t∈l:=by
 induction l with
 | nil=>simp[cU]
 | cons i r b =>
   simp only[cU];simp_all
def Refs.Hz{mem}:∀{U u e f},Refs γ mem U u e f->∀c∈f,∃b g k,b∈e/\mem b=aa g/\g.ro=false/\γ.loc b=aa (c,k):=by
 intro U;induction U with
 | pair t U l m =>
   intro u e f h c i;obtain⟨b,r,j,q,g,k,rfl,rfl,n,o,p,s,v,x,y,z⟩:=h
   grind
 | unit=>intro u e f h c i;rw[h.2] at i;cases i
 | _=>intro u e f h;exact h.elim
def Refs.nodup{mem}(j:bC B γ mem w):∀{U u f c},Refs γ mem U u f c->c.Nodup:=by
 intro U;induction U with
 | pair t U l g =>
   intro u f c h;obtain⟨b,r,e,q,z,k,rfl,rfl,A,m,C,D,E,F,n,i⟩:=h;rw[ada];refine⟨λo=>?_,g i⟩;obtain⟨p,s,v,G,x,H,y⟩:=i.Hz e o;have:=j.inj b p e k v (by rw[m];simp) (by rw[x];simp) n y
   grind
 | unit=>intro u f c h;rw[h.2];exact List.nodup_nil
 | _=>intro u f c h;exact h.elim
def Refs.val{mem w' I'}:∀{U u y f e},Refs γ mem U u f e->sa w' I' U y e->∀{c v},nS U y f c=aa v ->
  ∃(t:Ty) (x z:t.den) (bx:Box) (blk k:Nat),mem c=aa bx/\bx.buf=false/\bx.lk=false/\(bx.ro=false/\bx.tid=0)/\bx.val=.data t x/\v=.data t z/\γ.loc c=aa (blk,k)/\blk∈e/\adR w' I' t z blk:=by
 intro U;induction U with
 | pair t U l m =>
   intro u y f e h i c v g;obtain⟨b,r,blk,q,bx,k,rfl,rfl,o,p,s,A,C,D,E,F⟩:=h;obtain⟨j,G,H,I,J⟩:=i;simp only[nS] at g;cases n:Nat.beq c b with
   | true =>
     obtain rfl:=gA n
     grind
   | false =>
     grind
 | unit=>intro u y f e h i c v g;cases g
 | _=>intro u y f e h;exact h.elim
def Refs.adT{mem}:∀{U u y f g},Refs γ mem U u f g->∀c∈g,∃b v i k,nS U y f b=aa v/\mem b=aa i/\i.ro=false/\γ.loc b=aa (c,k):=by
 intro U;induction U with
 | pair t U m j =>
   intro u y f g h c e;obtain⟨b,r,l,q,i,k,rfl,rfl,z,n,A,C,o,D,p,s⟩:=h;rcases fI.1 e with rfl|e
   .exact⟨b,.data t y.1,i,k,by simp[nS],n,o.1,p⟩
   .obtain⟨E,F,x,G,H,I⟩:=j (y:=y.2) s c e;simp only[nS]
    grind
 | unit=>intro u y f g h c e;rw[h.2] at e;cases e
 | _=>intro u y f g h;exact h.elim
def LS:∀{U u e c v},nS U u e c=aa v->c∈e:=by
 intro U;induction U with
 | pair t U i f =>
   intro u e c v h;cases e with
   | nil=>cases h
   | cons b r =>
     simp only[nS] at h;cases g:Nat.beq c b with
     | true=>obtain rfl:=gA g;exact qT ..
     | false=>rw[g] at h;exact vK _ (f h)
 | _=>intro u e c v h;cases h
def rn{U y b σ c}:(tZ U y b σ).mem c=match nS U y b c with|some v=>(match σ.mem c with|some e=>aa { e with val:=v }|none=>af)|none=>σ.mem c:=rfl
def bC.refs(h:bC B γ σ.mem w){U u y j Q}(D:Refs γ σ.mem U u j Q){G}{X Z:Nat->Prop}(m:vD ⟨w.heap.size,X,G⟩ w w'){I'}(hI:∀b o,γ.I b o->I' b o)(E:∀b o,I' b o->b<w'.heap.size)
  (F:∀b o,I' b o->¬γ.I b o->w.heap.size<=b) (R:sa w' I' U y Q)
  (W:∀k,X k->k∈Q\/∃c k',Z c/\γ.loc c=aa (k,k'))
  (S:∀c,Z c->nS U y j c=af/\∃bx,σ.mem c=aa bx/\bx.ro=false/\(Ext B γ σ.mem w ⟨I',γ.loc⟩ (tZ U y j σ).mem w'->ew ⟨I',γ.loc⟩ (tZ U y j σ).mem w' c bx)) :
  bC B ⟨I',γ.loc⟩ (tZ U y j σ).mem w'/\Ext B γ σ.mem w ⟨I',γ.loc⟩ (tZ U y j σ).mem w':=by
 have H:∀k,X k->∃b bx k',σ.mem b=aa bx/\bx.ro=false/\γ.loc b=aa (k,k'):=λk p=>by
  rcases W k p with q|⟨c,k',q1,q2⟩
  .obtain⟨b,bx,k',g1,g2,g3,g4⟩:=D.Hz k q;exact⟨b,bx,k',g2,g3,g4⟩
  .obtain⟨_,bx,g1,g2,_⟩:=S c q1;exact⟨c,bx,k',g1,g2,q2⟩
 have f:∀k,k<w.heap.size->¬X k->w'.heap[k]?=w.heap[k]?:=λk p g=>m.block k λq=>by
  rcases q with q|q
  .grind
  .grind
 have J:∀blk,X blk->B.has blk/\blk<w.heap.size:=λblk g=>by
  obtain⟨b,bx,k,g2,g3,g4⟩:=H blk g;exact h.fresh b blk k (by rw[g2];simp) g4
 have r:∀blk,X blk->∀o,¬γ.I blk o:=λblk g o C=>by
  obtain⟨b,bx,k,g2,g3,g4⟩:=H blk g;have:=(h.sep b bx blk k o g2 g4 C).1
  grind
 have K:∀k,¬B.has k->k<w.heap.size:=λk p=>Y5 λq=>p (.inl<|gi h.base q);have s:∀c,(tZ U y j σ).mem c≠af->σ.mem c≠none:=by
  intro c hc hq;apply hc;rw[rn]
  grind
 have hx:Ext B γ σ.mem w ⟨I',γ.loc⟩ (tZ U y j σ).mem w' :=
  { below:=⟨m.os,m.tape,m.output,m.size,λk p=>f k (K k p) λg=>p (J k g).1⟩
    I:=hI
    qV:=λb o x=>by
     grind
    cells:=λb o C=>dH (f b (h.te b o C) λg=>r b g o C)
    boxes:=λc cx hc=>by
     rw[rn,hc];cases hv:nS U y j c with
     | none=>exact⟨cx,rfl,bX _,λ_=>⟨rfl,rfl,rfl⟩⟩
     | some v =>
       obtain⟨t,x,z,bx,blk,k,g1,g2,g3,g4,g5,g6,g7,g8,T⟩:=D.val R hv;rw[hc] at g1;obtain rfl:=aF g1;refine⟨_,rfl,bX _,λ_=>⟨rfl,rfl,?_⟩⟩;subst g6;unfold Box.row;simp only[g2,g5];cases t<;>rfl }
 refine⟨?_,hx⟩;exact
  { tf:=h.BU hx
    base:=gi h.base m.size
    boxes:=λc cx hc=>by
     by_cases L:Z c
     .obtain⟨q1,bx,q2,_,q3⟩:=S c L;rw[rn,q1] at hc;replace hc:σ.mem c=aa cx:=hc;rw[q2] at hc;obtain rfl:=aF hc;exact q3 hx
     rw[rn] at hc;cases hv:nS U y j c with
     | none =>
       rw[hv] at hc;replace hc:σ.mem c=aa cx:=hc;refine(h.boxes c cx hc).keep hx rfl λblk k l=>?_;refine f blk (h.fresh c blk k (by rw[hc];simp) l).2 λg=>?_;rcases W blk g with g|⟨Y,k',q1,q2⟩
       .obtain⟨b,v,bx,k',g1,g2,g3,g4⟩:=D.adT (y:=y) blk g;have:=h.inj c b blk k k' (by rw[hc];simp) (by rw[g2];simp) l g4
        grind
       .obtain⟨_,bx,g2,_⟩:=S Y q1;have:=h.inj c Y blk k k' (by rw[hc];simp) (by rw[g2];simp) l q2;exact L (this▸q1)
     | some v =>
       obtain⟨t,x,z,bx,blk,k,g1,g2,g3,g4,g5,g6,g7,g8,T⟩:=D.val R hv;rw[hv,g1] at hc;obtain rfl:=aF hc;obtain⟨cur,tid,fr,j1,j2,j3⟩:=T;simp only[g2];subst g6;exact⟨blk,k,cur,tid,fr,g7,j1,j2,.inl g4.2,j3⟩
    inj:=λc d blk k k' hc hd=>h.inj c d blk k k' (s c hc) (s d hd)
    fresh:=λc blk k hc l=>by have:=h.fresh c blk k (s c hc) l;exact⟨this.1,zf this.2 m.size⟩
    te:=E
    sep:=λc cx blk k A hc l C=>by
     obtain⟨i,hc0,hro,adL,M⟩:∃i,σ.mem c=aa i/\cx.ro=i.ro/\cx.row=i.row/\cx.buf=i.buf:=by
      rw[rn] at hc;cases hv:nS U y j c with
      | none=>rw[hv] at hc;exact⟨cx,hc,rfl,rfl,rfl⟩
      | some v =>
        obtain⟨t,x,z,bx,LJ,k',g1,g2,g3,g4,g5,g6,g7,g8,T⟩:=D.val R hv;rw[hv,g1] at hc;obtain rfl:=aF hc;refine⟨bx,g1,rfl,?_,rfl⟩;subst g6;unfold Box.row;simp only[g2,g5];cases t<;>rfl
     by_cases O:γ.I blk A
     .have:=h.sep c i blk k A hc0 l O;exact⟨by rw[hro];exact this.1,λg e n V=>this.2 (by rw[<-M];exact g) e n (by rw[<-adL];exact V)⟩
     .have h1:=F blk A C O;have h2:=(h.fresh c blk k (by rw[hc0];simp) l).2;omega }
def aaJ{mem t v x val}(b:cu γ mem w v .val [val])(h:toD t v=aa x):∃c,bH w γ.I t x c/\val=cZ t c:=by
 unfold toD at h;split at h
 .rename_i u y;obtain⟨q,f⟩:=Ty.lO h;subst q;subst f;exact ej.1 b
 .split at h
  .rename_i e;obtain rfl:=aF h;obtain rfl:val=_:=by simpa [cu] using b
   exact⟨[.slice af 0 0],.inl ⟨⟨af,rfl⟩,rfl⟩,rfl⟩
  .cases h
 .cases h
def LU{t v x}(h:toS t v=aa x):v=.data t x:=by
 unfold toS at h;split at h
 .obtain⟨q,b⟩:=Ty.lO h
  grind
 .cases h
def D0(hm:bC B γ σ.mem w):∀{ps A U vs s x u y},lS γ σ.mem w vs s->rT σ ps A U vs=aa (x,u,y) ->
  ∃e,PW w γ.I ps A U x s e/\Refs γ σ.mem U u y e/\sa w γ.I U u e:=by
 intro ps;induction ps with
 | nil =>
   intro A U vs s x u y z h;cases A<;>first|(cases h;done)|skip
   cases U<;>first|(cases h;done)|skip
   cases vs with
   | cons v r=>cases h
   | nil =>
     obtain⟨rfl,q⟩:=eh (aF h);obtain⟨rfl,rfl⟩:=eh q;have hx:s=[]:=by have:=z.1;simpa using this
     exact⟨[],⟨rfl,rfl,hx,rfl⟩,⟨rfl,rfl⟩,rfl⟩
 | cons p ps W =>
   intro A U vs s x u y z h;cases p with
   | false =>
     cases A<;>first|(cases h;done)|skip
     cases vs with
     | nil=>cases h
     | cons v r =>
       simp only[rT] at h;split at h
       .rename_i x1 y1 u1 m D E;obtain⟨rfl,q⟩:=eh (aF h);obtain⟨rfl,rfl⟩:=eh q;obtain⟨F,c,rfl,G,H⟩:=z.cons;obtain⟨e,J,K,L⟩:=W H E;obtain⟨cs,c1,c2⟩:=aaJ G D;exact⟨e,⟨cs,c,by rw[c2],c1,J⟩,K,L⟩
       .cases h
   | true =>
     cases U<;>first|(cases h;done)|skip
     cases vs with
     | nil=>cases h
     | cons v0 r =>
     cases v0<;>first|(cases h;done)|skip
     rename_i b M O;cases O with
     | cons _ _=>cases h
     | nil =>
     simp only[rT] at h;split at h
     case h_2=>cases h
     rename_i n Q;cases f:(Nat.beq n.aM M&&!n.buf&&!n.lk&&!n.ro&&Nat.beq n.tid 0) with
     | false=>rw[f] at h;cases h
     | true =>
       rw[f] at h;simp only[gz,DF] at f;obtain⟨⟨⟨⟨t,j⟩,R⟩,S⟩,T⟩:=f;split at h
       case h_2=>cases h
       rename_i x1 y1 u1 m D E;cases g:cU m b with
       | true=>rw[g] at h;cases h
       | false =>
         rw[g] at h;obtain⟨rfl,q⟩:=eh (aF h);obtain⟨rfl,rfl⟩:=eh q;obtain⟨F,c,rfl,G,H⟩:=z.cons;obtain⟨e,J,K,L⟩:=W H E;obtain⟨i,k,X,C⟩:=bk Q (gA t) G.2;have C:=vk C;simp only[eg] at C;have l:=LU D;have o:=hm.boxes b n Q;unfold ew at o;rw[j] at o;obtain⟨Y,cap,V,tid,fr,Z,a2,a3,adM,a4⟩:=o;rw[X] at Z;obtain⟨rfl,rfl⟩:=eh (aF Z);rw[l] at a4;exact⟨i::e,⟨i,c,e,by rw[C],rfl,J⟩,⟨b,m,i,e,n,k,rfl,rfl,(λhq=>by rw[B3.2 hq] at g;cases g),Q,j,R,⟨S,(gA T)⟩,l,X,K⟩,i,e,rfl,⟨V,tid,fr,a2,a3,a4⟩,L⟩
end
end Go.Ge
