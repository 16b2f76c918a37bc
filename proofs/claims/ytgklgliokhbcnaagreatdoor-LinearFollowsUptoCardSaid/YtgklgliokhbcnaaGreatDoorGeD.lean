import Derived.Test.YtgklgliokhbcnaaGreatDoorGeC
import Derived.Great.BuildSlice
import Derived.Laws.IdiomStrings
import Derived.Laws.BytesArg
import Derived.Laws.MakeOwn
import Derived.Deep.AppendSrc
set_option linter.unusedVariables false
set_option linter.unusedSimpArgs false
set_option linter.unusedSectionVars false
set_option linter.defProp false
open Option renaming some->aa,none->af
namespace Go.Ge
open RowKit
def Xe(e:Gh)(c:Nat):Gh:={ e with I:=λb o=>e.I b o\/b=c }
def bF.aiy{B γ mem w}(h:bF B γ mem w) cs i :
  bF B (Xe γ w.heap.size) mem (w.alloc<|.cells cs i)/\Ext B γ mem w (Xe γ w.heap.size) mem (w.alloc<|.cells cs i):=by
 have hx:Ext B γ mem w (Xe γ w.heap.size) mem (w.alloc<|.cells cs i) :=
  { below:=(we.refl _ _).alloc h.base _
    I:=λ_ _ x=>.inl x
    r4:=λc o x=>by
     rcases x with x|x
     .grind
     .exact .inr (.inl<|by rw[x];exact h.base)
    cells:=λc o x=>dF (cZ w _ c<|h.vg c o x)
    boxes:=λb g hb=>⟨g,hb,bV _,λ_=>⟨rfl,rfl,rfl⟩⟩ }
 refine⟨?_,hx⟩;have j:(w.alloc<|.cells cs i).heap.size=w.heap.size+1:=aT;exact
  { vh:=h.FP hx
    base:=by rw[j];exact TV h.base
    boxes:=λb g hb=>(h.boxes b g hb).keep hx rfl λc k f=>cZ w _ c (h.fresh b c k (by rw[hb];simp) f).2
    inj:=h.inj
    fresh:=λb c k hb f=>by have:=h.fresh b c k hb f;exact⟨this.1,ah⟩
    vg:=λc e hi=>by
     rcases hi with hi|hi
     .have:=h.vg c e hi;omega
     .omega
    sep:=λb g c k e hb f hi=>by
     rcases hi with hi|hi
     .exact h.sep b g c k e hb f hi
     .have:=(h.fresh b c k (by rw[hb];simp) f).2;omega }
def LP off:∀l k b,off+k+l.length<=b.size ->
  (l.zipIdx k).foldl (λc x=>c.setIfInBounds (off+x.2) x.1) b=(ba b.toList (off+k) l).toArray
 | [],k,b,h=>by simp[ba]
 | v::r,k,b,h=>by
   simp only[List.zipIdx_cons,adh];rw[LP off r (k+1) _<|by simp at h⊢;omega];have e:=list_seg_step b.toList _ v r ah;simpa [ba,EB] using e
def w9{place cells i off size v rest}(b:place i=aa (off,size))(e:v.cells.toList.length=size)
  (c:off+size<=cells.size):Instr.fill place cells ((i,v)::rest)=Instr.fill place (ba cells.toList off v.cells.toList).toArray rest:=by
 have f:(v.cells.size≠size||off+v.cells.size > cells.size)=false:=by
  grind
 simp only[Instr.fill,b];rw[<-Array.foldl_toList];have:=LP off v.cells.toList 0 cells ah
 grind
def Xf{w I u y es}(m:bJ w I u y es):∀{t x f cs k o},
  bJ w I t x cs->iF t k=aa o->Ls t x k u y=aa f->bJ w I t f (ba cs o es)/\o+es.length<=cs.length:=by
 intro t;induction t with
 | pair a b v g =>
   intro x f cs k o h c e;obtain⟨i,n,rfl,j,p⟩:=h;cases k with
   | zero =>
     simp only[iF,Lh] at c;subst c;simp only[Ls] at e;split at e
     .rename_i F A;obtain⟨q,C⟩:=Ty.lQ A;subst q;subst C;obtain rfl:=aI e;have r:es.length=i.length:=by rw[m.length,j.length]
      refine⟨⟨es,n,?_,m,p⟩,by rw[iC];omega⟩;simp only[ba]
      grind
     .cases e
   | succ k =>
     simp only[iF] at c;cases l:iF b k with
     | none=>rw[l] at c;cases c
     | some s =>
       rw[l] at c;simp at c;simp only[Ls] at e;split at e
       .rename_i z D;obtain rfl:=aI e;obtain⟨E,G⟩:=g p l D;have r:=j.length;refine⟨⟨i,ba n s es,?_,j,E⟩,by rw[iC];omega⟩;subst c;rw[<-r];simp only[ba];first
         | (rw[acW,xg,EB,<-Aq,Lm];simp[xg];done)
         | (rw[T3 s i.length];simp)
       .cases e
 | _=>intro x f cs k o h c;cases k<;>simp[iF] at c
def JZ:∀{t k u},xn t k=aa u->∃o,iF t k=aa o:=by
 intro t;induction t with
 | pair a b e c =>
   intro k u h;cases k with
   | zero=>exact⟨0,rfl⟩
   | succ k =>
     obtain⟨o,f⟩:=c h;simp only[iF]
     grind
 | _=>intro k u h;cases k<;>cases h
section
variable {P:Program} {B:B5} {N:Nat} {γ:Gh} {σ aV:St} {a:Act} {w:World} {d:Option Nat} {cx:Ctx}
def HA{place t}(m:∀k u o,xn t k=aa u->iF t k=aa o->place k=aa (o,u.size)) :
  ∀{parts x l cells σ aV γ},dy B N γ σ a w->bJ w γ.I t x cells.toList->iG σ t x parts=aa (l,aV) ->
   ∃b bE,Instr.fill place cells (parts.map λp=>(p.1,a.eval p.2))=aa b/\dy B N bE aV a w/\Ext B γ σ.mem w bE aV.mem w/\bJ w bE.I t l b.toList:=by
 intro parts;induction parts with
 | nil =>
   intro x l cells σ aV γ h n c;obtain⟨rfl,rfl⟩:=eN (aI c);exact⟨cells,γ,rfl,h,Ext.refl _ _ _ _,n⟩
 | cons p r E =>
   obtain⟨k,o⟩:=p;intro x l cells σ aV γ h n c;simp only[iG] at c;split at c
   .rename_i u A;split at c
    .rename_i y bM F;split at c
     .rename_i R q;obtain⟨G,H,s,C,v,J⟩:=od h (h.cW o) F;obtain f:a.eval o=_:=by simpa using J
      have g:(a.eval o).cells.toList=C:=by rw[f];exact ur v
      obtain⟨i,e⟩:=JZ A;obtain⟨K,D⟩:=Xf v (bJ.mono s.I s.cells n) e q;have j:=v.length;obtain⟨b,z,L,M,O,Q⟩:=E (cells:=(ba cells.toList i C).toArray) H (by simpa using K) c;refine⟨b,z,?_,M,s.trans O,Q⟩;simp;rw[w9 (m k u i A e) (by rw[g];exact j)<|by rw[j] at D;simpa using D,g];exact L
     .cases c
    .cases c
   .cases c
def Bo{n}{e:Ty}{place}(t:∀k,place k=aa (k*e.size,e.size)) :
  ∀{parts} {l s:List e.den} {cells σ aV γ},dy B N γ σ a w->bJ w γ.I (.arr n e) l cells.toList->fF σ e l parts=aa (s,aV) ->
   ∃b bE,Instr.fill place cells (parts.map λp=>(p.1,a.eval p.2))=aa b/\dy B N bE aV a w/\Ext B γ σ.mem w bE aV.mem w/\bJ w bE.I (.arr n e) s b.toList:=by
 intro parts;induction parts with
 | nil =>
   intro l s cells σ aV γ h u c;obtain⟨rfl,rfl⟩:=eN (aI c);exact⟨cells,γ,rfl,h,Ext.refl _ _ _ _,u⟩
 | cons p r J =>
   obtain⟨k,o⟩:=p;intro l s cells σ aV γ h u c;simp only[fF] at c;split at c
   .rename_i y bM K;cases f:Nat.blt k l.length with
    | false=>rw[f] at c;cases c
    | true =>
      rw[f] at c;have F:k<l.length:=by simpa using f
      obtain⟨v,L,x,z,A,M⟩:=od h (h.cW o) K;obtain j:a.eval o=_:=by simpa using M
      have m:(a.eval o).cells.toList=z:=by rw[j];exact ur A
      obtain⟨G,C,O⟩:=bJ.mono x.I x.cells u;have D:l.length=n:=G;have g:=A.length;have H:(k+1)*e.size<=n*e.size:=gW _ ah;rw[JO] at H;have i:k*e.size+z.length<=cells.toList.length:=by rw[g,C];exact H
      have q:bJ w v.I (.arr n e) _ _ :=
       ⟨(@List.length_set _ l _ _).trans G,by rw[bO i];exact C,LF D (by rw[C];apply bV) O ah A⟩
      obtain⟨b,E,Q,R,S,T⟩:=J (cells:=(ba cells.toList _ z).toArray) L (by simpa using q) c;refine⟨b,E,?_,R,x.trans S,T⟩;simp;rw[w9 (t k) (by rw[m];exact g)<|by rw[g] at i;simpa using i,m];exact Q
   .cases c
def r5.places{t}:∀{off e},r5 P t off e->∃c,e.mapM (λf=>(P.info? f.type).map λi=>(f.offset,i.size))=aa c /\
  ∀k u o,xn t k=aa u->iF t k=aa o->c[k]?=aa (off+o,u.size):=by
 induction t with
 | pair a b m l =>
   intro off e h;obtain⟨f,r,rfl,y,A,n,C,p⟩:=h.cons;obtain⟨q,s,D⟩:=l p;obtain⟨i,z,v,E,_⟩:=n.info;refine⟨(f.offset,i.size)::q,by simp[v,s],λk u o g j=>?_⟩;cases k with
   | zero =>
     simp only[xn,iF] at g j
     grind
   | succ k =>
     simp only[xn,iF] at g j;cases x:iF b k with
     | none=>rw[x] at j;cases j
     | some F =>
       grind
 | unit =>
   intro off e h;cases e with
   | nil=>exact⟨[],rfl,λk u o g=>by cases k<;>cases g⟩
   | cons f r=>simp[r5,gf] at h
 | _=>intro off e h;cases e<;>simp[r5,gf] at h
def I9{mem}:∀{c v},qu c=aa v->cI γ mem w v .cells (LD c):=by
 intro c;induction c with
 | nil=>intro v h;obtain rfl:=aI h;rfl
 | cons f r g =>
   intro v h;cases f with
   | dat t =>
     simp only[qu] at h;split at h
     .rename_i u b;obtain rfl:=aI h;exact⟨_,_,rfl,mZ _ _ t,g b⟩
     .cases h
   | buf e i =>
     simp only[qu] at h;split at h
     .rename_i u b;obtain rfl:=aI h;exact⟨[.slice af 0 0],_,rfl,rfl,g b⟩
     .cases h
   | one =>
     simp only[qu] at h;split at h
     .rename_i u b;obtain rfl:=aI h;exact⟨[.pointer af],_,rfl,rfl,g b⟩
     .cases h
   | fnc =>
     simp only[qu] at h;split at h
     .rename_i u b;obtain rfl:=aI h;exact⟨[.nilFunc],_,rfl,⟨_,rfl,rfl⟩,g b⟩
     .cases h
   | self=>cases h
def xA{place O}(E:∀k o f,xo O k=aa o->O[k]?=aa f->place k=aa (o,f.size))(h:dy B N γ σ a w) :
  ∀{parts v L cells},cI γ σ.mem w v .cells cells.toList->my σ O v parts=aa L ->
   ∃b,Instr.fill place cells (parts.map λp=>(p.1,a.eval p.2))=aa b/\cI γ σ.mem w L .cells b.toList:=by
 intro parts;induction parts with
 | nil=>intro v L cells C i;obtain rfl:=aI i;exact⟨cells,rfl,C⟩
 | cons p r Q =>
   obtain⟨k,x⟩:=p;intro v L cells C i;simp only[my] at i;split at i
   case h_3=>cases i
   case h_2 =>
    rename_i o R f F M A;cases m:Nat.beq o R&&Nat.beq 1 f.size with
    | false=>rw[m] at i;cases i
    | true =>
      rw[m] at i;simp only[gw] at m;obtain rfl:=gx m.1;have l:=gx m.2;split at i
      case h_2=>cases i
      rename_i g c n;split at i
      case h_2=>cases i
      rename_i S q;have j:=(h.cW x).jO (λu e=>by rw[e] at n;cases n) (λe=>by rw[e] at n;cases n);rw[n] at j;obtain⟨G,_⟩:=zH C F;have s:o+1<=cells.toList.length:=G;have D:(a.eval x).cells.toList.length=1:=by obtain⟨U,e,_⟩:=j;rw[e];rfl
      obtain⟨b,H,I⟩:=Q (cells:=(ba cells.toList o (a.eval x).cells.toList).toArray) (by simpa using(Ay C F (λz J=>by obtain rfl:=aI J;exact j) q D)) i;refine⟨b,?_,I⟩;simp;rw[w9 (E k o f M A) (by rw[D];exact l)<|by rw[<-l];simpa using s];exact H
   rename_i o t V R f F M A;cases m:Nat.beq o R&&Nat.beq t.size f.size with
   | false=>rw[m] at i;cases i
   | true =>
     rw[m] at i;simp only[gw] at m;obtain rfl:=gx m.1;have l:=gx m.2;split at i
     case h_2 =>
      obtain⟨K,i⟩:Ub t (cW σ x)=true/\_:=by
       cases T:Ub t (cW σ x) with
       | false=>rw[T] at i;cases i
       | true=>rw[T] at i;exact⟨rfl,i⟩
      simp only[xj] at i;split at i
      case h_2=>cases i
      rename_i S q;have j:=(h.cW x).jO (λu e=>by rw[e] at K;cases t<;>cases K) (λe=>by rw[e] at K;cases t<;>cases K);have D:=j.length.trans (P0 K);obtain⟨G,_⟩:=zH C F;have s:o+t.size<=cells.toList.length:=G;obtain⟨b,H,I⟩:=Q (cells:=(ba cells.toList o (a.eval x).cells.toList).toArray) (by simpa using(Ay C F (λz J=>by obtain rfl:=aI J;exact j) q D)) i;refine⟨b,?_,I⟩;simp;rw[w9 (E k o f M A) (by rw[D];exact l)<|by rw[<-l];simpa using s];exact H
     rename_i y n;split at i
     case h_2=>cases i
     rename_i S q;have j:=KJ n ((h.cW x).jO (λu e=>by rw[e] at n;cases n) λe=>by rw[e] at n;cases n);obtain⟨G,_⟩:=zH C F;have s:o+t.size<=cells.toList.length:=G;have D:=j.length;obtain⟨b,H,I⟩:=Q (cells:=(ba cells.toList o (a.eval x).cells.toList).toArray) (by simpa using(Ay C F (λz J=>by obtain rfl:=aI J;exact j) q D)) i;refine⟨b,?_,I⟩;simp;rw[w9 (E k o f M A) (by rw[D];exact l)<|by rw[<-l];simpa using s];exact H
def J0(n:fN P cx){t:TypeId}{e l p q}{parts:Array (Nat×Operand)}(h:dy B N γ σ a w)(r:∀k,d=aa k->k<N)(s:find cx.wb t=aa e)
  (g:qu e=aa l) (u:my σ e l parts.toList=aa (.mix p q)) :
  oT P B N γ σ a w d (Instr.build t<|parts.map λ(i,x)=>(i,a.eval x)) (σ.bu d<|.mix p q):=by
 have m:=n.wb _ _ s;simp only[OB,gw] at m;obtain⟨j,v⟩:=m;obtain⟨i,z,J,K,L,y⟩:=kk v;split at j
 case h_2=>cases j
 obtain⟨M,O,A⟩:=FR j;obtain⟨b,Q,C,D,E,F,G⟩:=xA (λk o f H I=>by have:=A k o f H I;simpa using this) h
  (by rw[y];exact I9 g) u
 have c:(Instr.build t<|parts.map λ(i,x)=>(i,a.eval x)).run P w=.ok (.agg b) w:=by
  refine run_build w t _ _ ?_;unfold Program.built;simp_all
 exact bK h r c ⟨C,D,by rw[<-E],F,G⟩
def HB(n:fN P cx){t:TypeId}{e l u}{parts:Array (Nat×Operand)}(h:dy B N γ σ a w)(p:∀k,d=aa k->k<N)(q:find cx.wb t=aa e)
  (g:qu e=aa l) (r:my σ e l parts.toList=aa (.data .unit u)) :
  oT P B N γ σ a w d (Instr.build t<|parts.map λ(i,x)=>(i,a.eval x)) (σ.bu d<|.data .unit ()):=by
 have m:=n.wb _ _ q;simp only[OB,gw] at m;obtain⟨j,s⟩:=m;obtain⟨i,z,E,F,G,v⟩:=kk s;split at j
 case h_2=>cases j
 obtain⟨H,I,y⟩:=FR j;obtain⟨b,J,A⟩:=xA (λk o f C D=>by have:=y k o f C D;simpa using this) h
  (by rw[v];exact I9 g) r
 have c:(Instr.build t<|parts.map λ(i,x)=>(i,a.eval x)).run P w=.ok (.agg b) w:=by
  refine run_build w t _ _ ?_;unfold Program.built;simp_all
 exact bK h p c ⟨[],rfl,by rw[show b=#[] from Array.ext' A];rfl⟩
def agy:∀{t k o f},xo (Ht t) k=aa o->(Ht t)[k]?=aa f->∃u,xn t k=aa u/\iF t k=aa o/\f.size=u.size:=by
 intro t;induction t with
 | pair a b _ e =>
   intro k o f c h;cases k with
   | zero=>exact⟨a,rfl,c,by obtain rfl:=aI h;rfl⟩
   | succ k =>
     simp only[Ht,xo] at c;split at c
     .rename_i m g;obtain rfl:=aI c;obtain⟨u,i,j,l⟩:=e g (by simpa [Ht] using h);exact⟨u,i,by simp[iF,j];rfl,l⟩
     .cases c
 | _=>intro k o f c;cases c
def EL(A:fN P cx){bf}{t:TypeId}{u v}{parts:Array (Nat×Operand)}{x}(h:dy B N γ σ a w)(l:∀k,d=aa k->k<N)(C:find cx.T t=aa (.pair u v))
  (c:p9 bf σ (.pair u v) parts.toList=aa (x,aV)) :
  oT P B N γ σ a w d (Instr.build t<|parts.map λ(i,x)=>(i,a.eval x)) (aV.bu d x):=by
 have m:=A.T _ _ C;obtain⟨Y,Z,D,_⟩:=m.pair;obtain⟨E,p1,n⟩:=D.places;obtain⟨i,z,i1,i2,i3,r⟩:=m.info;have e:∀b,Instr.fill (λk=>E[k]?) z.cells (parts.toList.map λp=>(p.1,a.eval p.2))=aa b->(Instr.build t<|parts.map λ(i,x)=>(i,a.eval x)).run P w=.ok (.agg b) w:=λb j=>by
  refine run_build w t _ _ ?_;unfold Program.built;simp_all
 unfold p9 at c;cases s:dc bf 8600000&&parts.toList.any (λp=>sb (cW σ p.2)) with
 | true =>
   rw[s] at c;simp only[xj] at c;split at c
   case h_2=>cases c
   rename_i p q g;obtain⟨rfl,rfl⟩:=eN (aI c);obtain⟨b,j,F,G,H,J,K⟩:=xA (λk o f g L=>by
    obtain⟨M,O,Q,R⟩:=agy g L;have:=n k M o O Q;rw[R];simpa using this) h (by rw[r];exact P2 (mZ w γ.I _)) g
   exact bK h l (e _ j) ⟨F,G,by rw[<-H],J,K⟩
 | false =>
   rw[s] at c;simp only[BM] at c;split at c
   case h_2=>cases c
   rename_i y bM S;obtain⟨rfl,rfl⟩:=eN (aI c);obtain⟨b,bE,j,U,V,W⟩:=HA (λk u o X g=>by have:=n k u o X g;simpa using this) h
    (by rw[r];exact mZ w γ.I _) S
   exact⟨_,_,bE,e _ j,U.xv l ⟨_,W,rfl⟩,by cases d<;>exact V⟩
def F0(j:fN P cx){t:TypeId}{n e}{parts:Array (Nat×Operand)}{l}(h:dy B N γ σ a w)(m:∀k,d=aa k->k<N)(o:find cx.T t=aa (.arr n e))
  (p:fF σ e (List.replicate n e.zero) parts.toList=aa (l,aV)) :
  oT P B N γ σ a w d (Instr.build t<|parts.map λ(i,x)=>(i,a.eval x)) (aV.bu d<|.data (.arr n e) l):=by
 have f:=j.T _ _ o;obtain⟨q,C,r,D⟩:=f.arr;obtain⟨g,E,F,s,G,H⟩:=r.info;obtain⟨i,z,J,K,L,u⟩:=f.info;obtain⟨b,bE,M,v,y,A⟩:=Bo (place:=λk=>aa (k*g.size,g.size)) (λk=>by rw[s]) h
  (by rw[u];exact mZ w γ.I _) p
 have c:(Instr.build t<|parts.map λ(i,x)=>(i,a.eval x)).run P w=.ok (.agg b) w:=by
  refine run_build w t _ _ ?_;unfold Program.built;simp_all
 exact⟨_,_,bE,c,v.xv m ⟨_,A,rfl⟩,by cases d<;>exact y⟩
def xB{e}{z:Value}(h:z.cells.toList=gn e)(f:0<e.size) n:(madeCells z.cells<|n*e.size).toList=gn (.arr n e):=by
 have i:z.cells.size=e.size:=by rw[<-ec e,<-h];simp
 apply Lg;intro j;have hlen:(gn<|.arr n e).length=n*e.size:=by rw[ec];rfl
 rcases tL j (n*e.size) with b|b
 .have k:(madeCells z.cells<|n*e.size).toList[j]?=aa (z.cells[j % z.cells.size]!):=by simp[madeCells,b]
  have g:=e7 (gn e) n _ (by rw[Y4 f];exact b);rw[ec] at g;have c:j / e.size*e.size+j % e.size=j:=by rw[T2];exact TX j e.size
  have l:(gn<|.arr n e)[j]?=(gn e)[j % e.size]?:=by
   conv=>rhs;rw[<-g]
   rw[jM,aQ (BW j f),va,c];rfl
  grind
 .rw[FA<|by simp[madeCells];omega,FA ah]
def RJ{w I}{e:Ty}{n}{l:List e.den}{cells t blk k}(h:bJ w I (.arr n e) l cells.toList)(m:w.heap[blk]?=aa (.cells cells t k))
  (p:∀o,I blk o) (q:n<=maxLen):bJ w I (.slice e) l [.slice (aa ⟨blk,0,af⟩) n n]:=by
 obtain⟨r,v,s⟩:=h;have b:l.length=n:=r;refine .inr ⟨blk,0,n,by rw[<-b],by rw[<-b];exact bV _,q,λi x u=>?_⟩;have f:l[i]?=aa x:=u;have g:=s i x f;refine⟨_,g.length,λj c y=>⟨?_,p _⟩,g⟩;rw[cell_of_heap m]
 grind
def B9(v:fN P cx){t:TypeId}{n e}{parts:Array (Nat×Operand)}{l}(h:dy B N γ σ a w)(y:find cx.T t=aa (.slice e))
  (J:n*e.size<=65536) (z:fF σ e (List.replicate n e.zero) parts.toList=aa (l,aV)) :
  ∃b bE c,0<e.size/\dy B N bE aV a w/\Ext B γ σ.mem w bE aV.mem w/\bJ w bE.I (.arr n e) l b.toList /\
   (Instr.buildSlice t n<|parts.map λ(i,x)=>(i,a.eval x)).run P w=.ok (.slice (aa ⟨w.heap.size,0,af⟩) n n) (w.alloc<|.cells b c):=by
 obtain⟨c,q,A,K,r⟩:=(v.T _ _ y).slice;obtain⟨g,j,s,m,C,D⟩:=A.info;obtain⟨b,bE,u,E,F,G⟩:=Bo (place:=λk=>aa (k*g.size,g.size)) (λk=>by rw[m]) h
  (by rw[xB D r];exact mZ w γ.I _) z
 refine⟨b,bE,c,r,E,F,G,?_⟩;have f:Instr.fill (λi=>aa (i*g.size,g.size)) (madeCells j.cells<|n*g.size) (parts.map λ(i,x)=>(i,a.eval x)).toList=aa b:=by rw[m] at u⊢;simpa using u
 by_cases o:n*g.size=0
 .have p:madeCells j.cells (n*g.size)=#[]:=by rw[o];simp[madeCells]
  rw[p] at f;simp at f;simp[Instr.buildSlice,run_underlying q,Go.sizeOf,typeInfo,s,o];have H:(Array.map (λx=>(default:Value))<|Array.range 0)=#[]:=by simp[Array.range]
  rw[H,f];rfl
 .exact run_buildSlice w t c n _ b g j q s C (by rw[m];omega) o f
def HC(p:fN P cx){t:TypeId}{n e}{parts:Array (Nat×Operand)}{l}(h:dy B N γ σ a w)(q:∀k,d=aa k->k<N)(r:find cx.T t=aa (.slice e))
  (g:Nat.ble (n*e.size) 65536=true) (s:fF σ e (List.replicate n e.zero) parts.toList=aa (l,aV)) :
  oT P B N γ σ a w d (Instr.buildSlice t n<|parts.map λ(i,x)=>(i,a.eval x)) (aV.bu d<|.data (.slice e) l):=by
 have g:=JL g;obtain⟨b,bE,j,u,m,v,y,c⟩:=B9 p h r g s;obtain⟨m1,f⟩:=m.ok.aiy b j;refine⟨_,_,_,c,m.bu f m1 q ⟨[.slice _ n n],?_,rfl⟩,by cases d<;>exact v.trans f⟩;refine RJ (bJ.mono f.I f.cells y) (heap_alloc_new w _) (λo=>.inr rfl) ?_;have:n*1<=n*e.size:=Nat.mul_le_mul_left _ u;have:65536<=maxLen:=aD;omega
def LQ(u:fN P cx){t:TypeId}{n e}{parts:Array (Nat×Operand)}{l nb k bM}(h:dy B N γ σ a w)(v:k<N)(y:find cx.T t=aa (.slice e))
  (j:Nat.ble (n*e.size) 65536=true) (z:fF σ e (List.replicate n e.zero) parts.toList=aa (l,bM))
  (A:(bM.bA (nb+k) (.data (.slice e) l) 0 true λb σ=>.ret (σ.put k<|.whole (nb+k) b)).run=aa aV) :
  oT P B N γ σ a w (aa k) (Instr.buildSlice t n<|parts.map λ(i,x)=>(i,a.eval x)) aV:=by
 have j:=JL j;obtain⟨g,bE,C,q,m,D,E,c⟩:=B9 u h y j z;obtain⟨b,f,o⟩:=dV A;obtain rfl:=aI o;obtain⟨r,F,G⟩:=E;have p:n<=maxLen:=by
  have:n*1<=n*e.size:=Nat.mul_le_mul_left _ q;have:65536<=maxLen:=aD;omega
 obtain⟨H,s⟩:=m.ok.LG (w':=w.alloc _) f q
  ((we.refl _ _).alloc m.ok.base _) (cZ w _) (heap_alloc_new w _) (xw _ _) (.inl rfl) (D5 r) p (by simpa using F) G
 refine⟨_,_,_,c,m.step s H v ?_,D.trans s⟩;exact⟨⟨_,rfl,rfl⟩,gE (bD _ _) rfl ⟨e,n,rfl,by rw[<-r];rfl,.inr ⟨w.heap.size,n,by simp[bP],rfl⟩⟩⟩
def RL{place}(z:∀k,place k=aa (k,1))(h:dy B N γ σ a w) :
  ∀{parts k v cells},cells.size=k+parts.length->B1 σ k parts=aa v ->
   ∃g,Instr.fill place cells (parts.map λp=>(p.1,a.eval p.2))=aa (cells.toList.take k++g).toArray/\cI γ σ.mem w v .cells g:=by
 intro parts;induction parts with
 | nil =>
   intro k v cells A l;obtain rfl:=aI l;refine⟨[],?_,rfl⟩;have:cells.toList.take k=cells.toList:=JK (by simp[A]);rw[this];simp[Instr.fill]
 | cons p r F =>
   obtain⟨j,x⟩:=p;intro k v cells A l;simp only[B1] at l;cases C:Nat.beq j k with
   | false=>rw[C] at l;cases l
   | true =>
     rw[C] at l;obtain rfl:=gx C;simp at A;have key:∀u o c,(∀t,u≠.BR t)->u≠.undef->cW σ x=u->B1 σ (j+1) r=aa o->v=.mix u o->(a.eval x).cells.toList=[c] ->
       ∃g,Instr.fill place cells (((j,x)::r).map λp=>(p.1,a.eval p.2))=aa (cells.toList.take j++g).toArray/\cI γ σ.mem w v .cells g:=by
      intro u o c G H n i D m;have hx:=h.cW x;rw[n] at hx;have s:=hx.jO G (λe=>absurd e H);have hlen:(ba cells.toList j [c]).length=cells.toList.length:=bO cT;obtain⟨g,M,I⟩:=F (cells:=(ba cells.toList j [c]).toArray) (by simp only[Li,hlen,TR];omega) i;have O:(ba cells.toList j [c]).take (j+1)=cells.toList.take j++[c]:=by
       have:(cells.toList.take j).length=j:=by rw[dk,TR];omega
       simp only[ba]
       grind
      refine⟨c::g,?_,?_⟩
      .simp;rw[w9 (z j) (by rw[m];rfl) ah]
       grind
      .rw[D];exact⟨[c],g,rfl,by rw[m] at s;exact s,I⟩
     split at l
     .rename_i o n i;obtain rfl:=aI l;have hx:=h.cW x;rw[n] at hx;obtain hx:a.eval x=_:=by simpa [cI] using hx
      exact key .vd o _ BS cj n i rfl (by rw[hx];rfl)
     .rename_i b J q o n i;obtain rfl:=aI l;have hx:=h.cW x;rw[n] at hx;obtain⟨⟨y,K,E⟩,_⟩:=hx;obtain rfl:a.eval x=y:=by simpa using K
      refine key _ o (a.eval x) BS cj n i rfl ?_;generalize a.eval x=y at E⊢;cases y<;>first|rfl|(simp[Value.oneCell'] at E)
     .rename_i f c o n i;obtain rfl:=aI l;have hx:=h.cW x;rw[n] at hx;obtain⟨L,hx,_,_⟩:=hx;obtain hx:a.eval x=_:=by simpa using hx
      exact key _ o _ BS cj n i rfl (by rw[hx];rfl)
     .cases l
def OH(q:fN P cx){t nb n}{parts:Array (Nat×Operand)}(h:dy B N γ σ a w)(C:∀k,d=aa k->k<N)
  (g:(C6 cx nb d t n parts.toList σ).run=aa aV):oT P B N γ σ a w d (Instr.buildSlice t n<|parts.map λ(i,x)=>(i,a.eval x)) aV:=by
 unfold C6 at g;split at g
 case h_2=>cases g
 rename_i k e v D E;obtain⟨r,m⟩:=ay g;simp only[gw] at r;obtain⟨⟨F,G⟩,o⟩:=r;obtain rfl:=gx F;have H:0<parts.toList.length:=by simpa using G
 have s:parts.toList.length<=64:=JL o;obtain⟨I,J⟩:=AB q D;obtain⟨_,K,z,L,_⟩:=q.vf _ J;obtain⟨b,u,l⟩:∃b,P.info? e=aa b/\b.size=1:=by
  have:=K w;cases hi:P.info? e with
  | none=>simp[Go.sizeOf,typeInfo,hi] at this
  | some b=>simp[Go.sizeOf,typeInfo,hi] at this;exact⟨b,rfl,this⟩
 obtain⟨c,M⟩:∃c,b.zero=aa c:=by
  have:=L w;cases hi:b.zero with
  | none=>simp[zeroValue,typeInfo,u,hi] at this
  | some c=>exact⟨c,rfl⟩
 obtain⟨O,f,p⟩:=dV m;obtain rfl:=aI p;obtain⟨y,Q,R⟩:=RL (place:=λi=>aa (i*b.size,b.size)) (λj=>by rw[l];simp) h (cells:=(Array.range<|parts.toList.length*b.size).map (c.cells[· % c.cells.size]!)) (by simp[l]) E;obtain⟨m1,A⟩:=h.ok.newVar f e (.inl rfl) (by simpa using R);refine⟨_,_,_,(run_buildSlice w t e parts.toList.length _ _ b c I u M (by rw[l];omega) (by rw[l];omega)<|by rw[adb];exact Q),h.step A m1 (C k rfl) ?_,A⟩;refine⟨⟨_,rfl,rfl⟩,gE (bD _ _) rfl ⟨aT,w.heap.size,0,by simp[bP],ah,ah,ah,_,_,rfl,aT,.inr ?_⟩⟩;simp[ef]
def HD(n:fN P cx){t:TypeId}{e nb k}(h:dy B N γ σ a w)(o:k<N)(p:find cx.T t=aa (.slice e))
  (q:(σ.bA (nb+k) (.data (.slice e) ([]:List e.den)) 0 true λb σ=>.ret (σ.put k<|.whole (nb+k) b)).run=aa aV) :
  oT P B N γ σ a w (aa k) (Instr.buildSlice t 0 #[]) aV:=by
 obtain⟨c,r,s,A,u⟩:=(n.T _ _ p).slice;obtain⟨C,D,v,E,F,G⟩:=s.info;obtain⟨b,f,j⟩:=dV q;obtain rfl:=aI j;have g:(Instr.buildSlice t 0 #[]).run P w=.ok (.slice (aa ⟨w.heap.size,0,af⟩) 0 0) (w.alloc<|.cells #[] c):=by
  simp[Instr.buildSlice,run_underlying r,Go.sizeOf,typeInfo,v,newRow,Instr.fill]
  grind
 obtain⟨x,m⟩:=h.ok.LG (w':=w.alloc (.cells #[] c)) (l:=([])) f u
  ((we.refl _ _).alloc h.ok.base _) (cZ w _) (heap_alloc_new w _) (xw _ _) (.inl rfl) (bV _) (pW _) aT (λi z y=>by cases y)
 refine⟨_,_,_,g,h.step m x o ?_,m⟩;exact⟨⟨_,rfl,rfl⟩,gE (bD _ _) rfl ⟨e,0,rfl,rfl,.inr ⟨w.heap.size,0,by simp[bP],rfl⟩⟩⟩
end
end Go.Ge
namespace Go.Ge
open RowKit
section
variable {P:Program} {B:B5} {N:Nat} {γ:Gh} {σ aV:St} {a:Act} {w w':World} {d:Option Nat} {cx:Ctx}
def EM:4294967296<=maxLen:=aD
def F1{n:Nat}(h:fits n=true):n<=4294967296:=by simp[fits] at h;omega
def Ca{b e}(c:EH P b=true)(f:P.info? b=aa e):e.bytes<=32768:=by
 unfold EH at c;rw[f] at c;exact JL c
def zK{mem b cap blk bx e n}(c:bx.buf=true)(f:bx.row=aa (e,n)) :
  cI (bP γ b<|some (blk,cap)) (dn mem b bx) w' (.whole b bx.aP) .val [.slice (aa ⟨blk,0,af⟩) n cap] :=
 ⟨⟨_,rfl,rfl⟩,gE (bD _ _) rfl ⟨e,n,c,f,.inr ⟨blk,cap,by simp[bP],rfl⟩⟩⟩
def J1(I:fN P cx){t:TypeId}{nb k e x y A C}{l c:Int}(h:dy B N γ σ a w)(J:k<N)(K:find cx.T t=aa (.slice e))
  (L:cW σ x=.data (.int A) l) (M:cW σ y=.data (.int C) c) (u:inside 0 l c=true) (O:fits c=true)
  (Q:(σ.bA (nb+k) (.data (.slice e)<|lJ l e.zero) 0 true λaP σ=>.ret (σ.put k<|.whole (nb+k) aP)).run=aa aV) :
  oT P B N γ σ a w (aa k) (Instr.makeSlice t (a.eval x)<|a.eval y) aV:=by
 obtain⟨aP,p,v⟩:=dV Q;obtain rfl:=aI v;obtain⟨_,R,S⟩:=jQ u;have D:c<=4294967296:=by simpa [fits] using O
 have q:=h.cW x;have r:=h.cW y;rw[L] at q;rw[M] at r;obtain⟨U,_⟩:=vI q;obtain⟨V,_⟩:=vI r;obtain⟨m,W,X,Y,E⟩:=(I.T _ _ K).slice;obtain⟨o,s,F,G,Z,e4⟩:=X.info;have hb:=Ca Y F;have f:o.bytes*c<=281474976710656:=by
  have:o.bytes*c<=32768*c:=Int.mul_le_mul_of_nonneg_right ah ah;omega
 have g:(madeCells s.cells<|c.toNat*o.size).toList=gn (.arr c.toNat e):=by rw[G];exact xB e4 E _
 have hlen:(lJ l e.zero).length=l.toNat:=by simp[lJ]
 obtain⟨m1,H⟩:=h.ok.LG (w':=w.alloc (.cells (madeCells s.cells<|c.toNat*o.size) m)) (l:=lJ l e.zero) (cap:=c.toNat) p E
  ((we.refl _ _).alloc h.ok.base _) (cZ w _) (heap_alloc_new w _) (xw _ _) (.inl rfl) ah (by have:=EM;omega)
  (by rw[G];apply size_madeCells) (λi z hz=>by
   rw[g];have j:(List.replicate l.toNat e.zero)[i]?=aa z:=hz;rw[ahX] at j;split at j
   .rename_i hi;obtain rfl:e.zero=z:=by simpa using j
    have:=e7 (gn e) c.toNat i ah;rw[ec] at this;rw[show gn _=(List.replicate c.toNat _).flatten from rfl,this];apply mZ
   .cases j)
 refine⟨_,_,_,by rw[U,V];exact(run_make w t m o s W F Z A C l c R S f ah),h.step H m1 J ?_,H⟩;have:=zK (γ:=γ) (w':=w.alloc (.cells (madeCells s.cells<|c.toNat*o.size) m)) (mem:=σ.mem) (b:=nb+k) (cap:=c.toNat) (blk:=w.heap.size)
  (bx:={ val:=.data (.slice e) _,tid:=0,buf:=true,ro:=false,lk:=false,aP }) (n:=l.toNat) rfl (by rw[<-hlen];rfl)
 exact this
def RM(b:UInt8):IntKind.u8.min<=((b.toNat:Int))/\((b.toNat:Int))<=IntKind.u8.max:=u8_in b
def aaN{I}{l:List Int}{v src dst e}(h:B7 w I (.int .u8) l v)(j:P.underlying src=aa (.slice e))(k:P.underlying e=aa (.int .u8))(m:P.underlying dst=aa .string) :
  (convert src dst v).run P w=.ok (.string ⟨(bq l).toArray⟩) w/\l.length<=maxLen:=by
 rcases h with ⟨rfl,g,b,n,q,o⟩|⟨c,f,b,n,q,o,r⟩
 .rcases o with rfl|⟨c,f,rfl⟩
  .rw[n];refine⟨?_,pW _⟩;cases g with
   | none=>exact run_convert_bytes_nil w src e j k 0 0 dst m
   | some u =>
     rw[run_convert_bytes_string w src dst e _ _ _ j k m];simp[ bq];rfl
  .rw[n];refine⟨?_,pW _⟩;exact run_convert_bytes_arg w src e j k c f 0 b [] rfl (λi p=>ah) dst m
 .rw[n];refine⟨?_,fi q o⟩;refine run_convert_bytes_arg w src e j k c f l.length b l rfl (λi p=>?_) dst m;obtain⟨x,y,s,t⟩:=r i l[i] (fH p);obtain⟨rfl,_⟩:=t;have:=s 0 _ rfl;simp only[Ty.size,FD,FC] at this;rw[this];simp[ fH p]
def HE l:(bq l).length=l.length:=by simp[bq]
def bytesRow_at{s:bb}{cap i b}(c:s[i]?=aa b):((bytesRow ⟨s.toArray⟩ cap).toList.drop<|i*1).take 1=[.int .u8 (b.toNat:Int)]:=by
 apply Lg;intro j;rw[jM];split
 .rename_i e;obtain rfl:j=0:=ah;rw[va];simp only[bytesRow,Y6];rw[TK<|by simpa using((iy.1 c).1)];simp[c]
 .rename_i e;rw[FA cT]
def OI s {cap} (h:s.size<=cap):(bytesRow s cap).size=cap:=by
 simp only[bytesRow,Array.size_append,Array.size_map,Array.size_replicate];have:s.data.size=s.size:=rfl;omega
def LR(y:fN P cx){nb k}{j l:TypeId}{x}{s:bb}(h:dy B N γ σ a w)(D:k<N)(E:find cx.T j=aa .str)(q:find cx.T l=aa (.slice<|.int .u8))
  (F:cW σ x=.data .str s) (G:(σ.bA (nb+k) (.data (.slice<|.int .u8)<|ax s) 0 true λaP σ=>.ret (σ.put k<|.whole (nb+k) aP)).run=aa aV) :
  oT P B N γ σ a w (aa k) (convert j l<|a.eval x) aV:=by
 have hv:=h.cW x;rw[F] at hv;obtain⟨H,I⟩:=y9 hv;obtain⟨aP,m,r⟩:=dV G;obtain rfl:=aI r;obtain⟨c,J,K,O,Q⟩:=(y.T _ _ q).slice;have g:=run_bytes_of_string w j l c ⟨s.toArray⟩ (y.T _ _ E).str J K.int;have t:(⟨s.toArray⟩:ByteArray).size=s.length:=by simp[ByteArray.size]
 rw[t] at g;have p:=grownCap_ge w s.length 0 c;have u:=grownCap_le_maxLen w s.length 0 c I;have hlen:(ax s).length=s.length:=by simp[ax]
 generalize A:grownCap w s.length 0 c=cap at *;obtain⟨m1,C⟩:=h.ok.LG (e:=.int .u8)
  (w':=w.drew.alloc (.cells (bytesRow ⟨s.toArray⟩ cap) c ((bytesRow ⟨s.toArray⟩ cap).size,(bytesRow ⟨s.toArray⟩ cap).size+1)))
  m aD ((we.refl B w).drew.alloc h.ok.base _) (cZ w.drew _) (heap_alloc_new w.drew _) ⟨λo R S=>ah,λL=>by cases L⟩ (.inl rfl) (fi (D5 hlen) p) u
  (by rw[(OI ⟨s.toArray⟩ p)];exact(FD _).symm) (λi z M=>by
   have f:(ax s)[i]?=aa z:=M;simp only[ax,JN] at f;cases v:s[i]? with
   | none=>rw[v] at f;cases f
   | some b =>
     rw[v] at f;obtain rfl:_=z:=aI f;exact⟨bytesRow_at v,RM b⟩)
 refine⟨_,_,_,by rw[H];exact g,h.step C m1 D ?_,C⟩;have:=zK (γ:=γ) (mem:=σ.mem) (b:=nb+k) (cap:=cap) (blk:=w.heap.size)
  (bx:={ val:=.data (.slice<|.int .u8) _,tid:=0,buf:=true,ro:=false,lk:=false,aP }) (n:=s.length)
  (w':=w.drew.alloc (.cells (bytesRow ⟨s.toArray⟩ cap) c ((bytesRow ⟨s.toArray⟩ cap).size,(bytesRow ⟨s.toArray⟩ cap).size+1))) rfl (by rw[<-hlen];rfl)
 exact this
def F2(e:fN P cx){nb src dst x}(h:dy B N γ σ a w)(i:∀k,d=aa k->k<N)(c:(iq cx nb d src dst (cW σ x) σ).run=aa aV) :
  oT P B N γ σ a w d (convert src dst<|a.eval x) aV:=by
 have hv:=h.cW x;unfold iq at c;split at c
 .rename_i v k y n f b g;rw[g] at hv;obtain⟨j,_⟩:=vI hv;obtain rfl:=aI c;refine bK h i (x:=.int k (k.wrap n)) ?_ (mkInt<|fI _ _);rw[j];simp[convert,run_underlying (e.T _ _ f).int,run_underlying (e.T _ _ b).int,Conv.intToInt]
 .rename_i s f b g;rw[g] at hv;obtain rfl:=aI c;obtain⟨j,o⟩:=y9 hv;refine bK h i ?_ hv;rw[j];simp[convert,run_underlying (e.T _ _ f).str,run_underlying (e.T _ _ b).str]
 .rename_i s f b g;split at c
  .rename_i k;obtain⟨z,m⟩:=cP c;exact LR e h (i k rfl) f b g m
  .exact absurd c cj
 .rename_i A f b;split at c
  .rename_i l o;obtain rfl:=aI c;obtain⟨p,q,r,C,D⟩:=(e.T _ _ f).slice;obtain⟨t,u⟩:=aaN (tP h.ok hv o) q r.int (e.T _ _ b).str;refine bK h i t ⟨_,⟨rfl,?_⟩,rfl⟩;exact fi (D5<|HE l) u
  .exact absurd c cj
 .exact absurd c cj
end
end Go.Ge
namespace Go.Ge
open RowKit
section
variable {P:Program} {B:B5} {N:Nat} {γ:Gh} {σ aV:St} {a:Act} {w w':World} {d:Option Nat} {cx:Ctx}
def fa(w:World)(I:Nat->Nat->Prop)(e:Ty)(l:List e.den)(b:List Value):Prop :=
 ∀(i:Nat) (x:e.den),l[i]?=aa x->bJ w I e x ((b.drop<|i*e.size).take e.size)
def oU{c:Type}{a b:List c}{i s}(h:(i+1)*s<=a.length):((a++b).drop<|i*s).take s=(a.drop<|i*s).take s:=by
 grind
def fa.append{I e l m c f rest}(j:fa w I e l c)(k:fa w I e m f)(g:c.length=l.length*e.size)(n:f.length=m.length*e.size) :
  fa w I e (l++m) (c++f++rest):=by
 intro i x b;rw[Ro] at b;split at b
 .rename_i h;have o:(i+1)*e.size<=l.length*e.size:=gW _ h;rw[xg,oU ah];exact j i x b
 .rename_i h;have o:(i-l.length+1)*e.size<=m.length*e.size:=gW _ ((iy.1 b).1);have p:i*e.size=c.length+(i-l.length)*e.size:=by rw[g,<-iE];congr 1;omega
  rw[xg,p,<-Aq,Lm,oU ah];exact k _ x b
def fa.front{I e l cs n}(h:fa w I e l cs)(c:l.length*e.size<=n)(f:n<=cs.length):fa w I e l (cs.take n):=by
 intro i x b;have g:(i+1)*e.size<=l.length*e.size:=gW _ ((iy.1 b).1);have:(((cs.take n)++cs.drop n).drop<|i*e.size).take e.size=((cs.take n).drop _).take e.size:=oU (by rw[dk];omega);rw[<-this,Fz];exact h i x b
def agz{I e m v tx t0 o}(p:(∃o,P.underlying tx=aa (.slice o))\/P.underlying tx=aa .string)(l:P.underlying t0=aa (.slice o))(h:B7 w I e m v) :
  ∃b,Src P e.size tx v m.length b w/\fa w I e m b:=by
 suffices ∃b,Src P e.size t0 v m.length b w/\fa w I e m b by
  obtain⟨b,c,q⟩:=this;exact⟨b,⟨p,c.len,c.cells,c.cellsD,c.newsLen,c.one⟩,q⟩
 rcases h with ⟨rfl,g,f,n,y,t⟩|⟨r,s,f,n,y,t,z⟩
 .refine⟨[],?_,λi x A=>by cases A⟩;rcases t with rfl|⟨r,s,rfl⟩
  .rw[n];cases g with
   | none=>exact Src.ofNil w l 0
   | some C=>exact Src.ofSlice w l C 0 0 [] aT (λj u k=>by cases k) BS
  .rw[n];exact Src.ofSlice w l _ 0 f [] aT (λj u k=>by cases k) BS
 .obtain⟨b,c,q,D,E⟩:=EK z;refine⟨b,?_,E⟩;rw[n];exact Src.ofSlice w l _ m.length f b c (λj u k=>by rw[addr_add];exact q j u k) D
def agA{I s tx}(h:(∃k,P.underlying tx=aa (.slice k))\/P.underlying tx=aa .string) :
  ∃e,Src P 1 tx (.string ⟨s.toArray⟩) (ax s).length e w/\fa w I (.int .u8) (ax s:List Int) e:=by
 have hlen:(ax s).length=(⟨s.toArray⟩:ByteArray).size:=by simp[ax,ByteArray.size]
 refine⟨byteCells ⟨s.toArray⟩,by rw[hlen];exact⟨h,λ_=>rfl,firstCells_string _ w,firstCells_string _ w.drew,by rw[byteCells_length,FD],λu l=>by
  obtain⟨_,_,rfl⟩:=Lq.1 l;rfl⟩,λi x m=>?_⟩
 have c:(ax s)[i]?=aa x:=m;simp only[ax,JN] at c;cases g:s[i]? with
 | none=>rw[g] at c;cases c
 | some b =>
   rw[g] at c;obtain rfl:_=x:=aI c;refine⟨?_,RM b⟩;apply Lg;intro j;rw[jM];split
   .rename_i f;obtain rfl:j=0:=by simp[Ty.size] at f;exact f
    simp[byteCells,Ty.size,g]
   .rename_i f;rw[FA<|by simp[Ty.size] at f⊢;omega]
def Cb{I t tx ty b e l m base sCap olds news x}(s:P.underlying t=aa (.slice b))(u:Den P e b)(v:EH P b=true)
  (c:(Builtin.firstCells e.size l.length<|.slice base l.length sCap).run P w.drew=.ok olds.toArray w.drew) (f:olds.length=l.length*e.size) (y:fa w I e l olds)
  (h:Src P e.size tx x m.length news w) (z:fa w I e m news) (p:sCap<l.length+m.length) (A:l.length+m.length<=4294967296) :
  ∃(cap:Nat) (cells:Array Value),(Builtin.append_ #[t,tx] ty #[.slice base l.length sCap,x]).run P w=.ok (.slice (aa ⟨w.heap.size,0,af⟩) (l.length+m.length) cap) (w.drew.alloc<|.cells cells b) /\
   l.length+m.length<=cap/\cap<=maxLen/\cells.size=cap*e.size/\fa w I e (l++m) cells.toList:=by
 obtain⟨C,i,q,r,D,E⟩:=u.info;have g:=growslice_fits p (by
  have:=adk A (Ca v q);omega)
 have j:=grownCap_ge w (l.length+m.length) sCap b;have k:i.cells.size=e.size:=by rw[<-ec e,<-E];simp
 refine⟨_,_,(run_append_grow_src w t tx ty b C i s q D base l.length sCap olds (by rw[r];exact c) x m.length news (by rw[r];exact h) p ah g),j,(grownCap_le_maxLen w _ sCap b (by have:=EM;omega)),?_,?_⟩
 .have n:=h.newsLen;have o:(Builtin.zeroCells i.cells<|grownCap w (l.length+m.length) sCap b-(l.length+m.length)).size=(grownCap w (l.length+m.length) sCap b-(l.length+m.length))*e.size:=by
   simp[Builtin.zeroCells,k]
  rw[Array.size_append,o];simp only[Li,iC,f,n];rw[<-iE,<-iE]
  grind
 .rw[Y6];exact y.append z f h.newsLen
def bF.grow{mem}(h:bF B γ mem w){b bx}(y:mem b=aa bx){e:Ty}{l l':List e.den}(j:bx.buf=true)(C:bx.val=.data (.slice e) l){blk cap}(hl:γ.loc b=aa (blk,cap))
  {cur cur' t fr} (L:w.heap[blk]?=aa (.cells cur t fr)) (D:ThB e cur fr) (adP:bx.tid=0\/t=bx.tid) (M:cur'.size=cur.size) (E:∀o,o<l.length*e.size->cur'[o]?=cur[o]?)
  (he:0<e.size) (F:l.length<=l'.length) (aiz:l'.length<=cap) (agB:cap<=maxLen) (G:cur.size=cap*e.size) (H:fa w γ.I e l' cur'.toList) :
  let m:Box:={ bx with val:=.data (.slice e) l',aP:=bx.aP+1 }
  bF B γ (dn mem b m) (w.setRow blk cur')/\Ext B γ mem w γ (dn mem b m) (w.setRow blk cur'):=by
 intro m;have aiA:=setRow_heap w blk cur cur' t fr L;have g:=λi r=>setRow_other w blk i cur' (r);have v:=Box.dT j C;have hx:Ext B γ mem w γ (dn mem b m) (w.setRow blk cur') :=
  { below:=⟨rfl,rfl,rfl,aT,λi r=>g i λe=>r (by rw[e];exact(h.fresh b blk cap (by rw[y];simp) hl).1)⟩
    I:=λ_ _ x=>x
    r4:=λ_ _ x=>.inl x
    cells:=λc o x=>by
     by_cases q:c=blk
     .subst q;have:=(h.sep b bx c cap o y hl x).2 j e l.length v;rw[cell_of_heap aiA,cell_of_heap L]
      grind
     .exact dF (g c q)
    boxes:=λc cx p=>by
     by_cases q:c=b
     .subst q;obtain rfl:cx=bx:=aI (p.symm.trans y);exact⟨m,bD _ _,Nat.le_succ _,λk=>absurd k (by simp[m])⟩
     .exact⟨cx,by rw[aZ _ q];exact p,bV _,λ_=>⟨rfl,rfl,rfl⟩⟩ }
 refine⟨?_,hx⟩;exact
  { vh:=h.FP hx
    base:=by have:=h.base;simpa using this
    boxes:=λc cx p=>by
     by_cases q:c=b
     .subst q;rw[bD] at p;obtain rfl:=aI p;simp only[m,j];exact⟨e,l',rfl,he,.inr ⟨blk,cap,cur',t,fr,hl,aiA,D.same M,adP,aiz,agB,by rw[M];exact G,λi x r=>bJ.mono hx.I hx.cells (H i x r)⟩⟩
     .rw[aZ _ q] at p;refine(h.boxes c cx p).keep hx rfl λf z J=>g f λQ=>q ?_;subst Q;exact h.inj c b f z cap (by rw[p];simp) (by rw[y];simp) J hl
    inj:=λc d f R S p T A U=>h.inj c d f R S (by
     by_cases e:c=b
     .subst e;rw[y];simp
     .rwa [aZ _ e] at p) (by
     by_cases e:d=b
     .grind
     .rwa [aZ _ e] at T) A U
    fresh:=λc f z p A=>by
     have:=h.fresh c f z (by
      by_cases e:c=b
      .grind
      .rwa [aZ _ e] at p) A
     simp_all
    vg:=λf s r=>by have:=h.vg f s r;simpa using this
    sep:=λc cx f z s p A r=>by
     by_cases q:c=b
     .subst q;rw[bD] at p;obtain rfl:=aI p;obtain⟨V,W⟩:=h.sep c bx f z s y A r;refine⟨V,λ_ u n O=>?_⟩;have K:m.row=aa _:=Box.dT j rfl;rw[K] at O;obtain⟨rfl,rfl⟩:=eN (aI O);have:=W j e l.length v;exact zv this (gW _ F)
     .rw[aZ _ q] at p;exact h.sep c cx f z s p A r }
def adS(i:bF B γ σ.mem w){e m x v tx t0 f}(c:(∃f,P.underlying tx=aa (.slice f))\/P.underlying tx=aa .string)(j:P.underlying t0=aa (.slice f))
  (g:cI γ σ.mem w x .val [v]) (h:y6 e σ x=aa m):∃b,Src P e.size tx v m.length b w/\fa w γ.I e m b:=by
 unfold y6 at h;split at h
 .rename_i t;obtain⟨q,k⟩:=mv h;subst q;subst k;obtain⟨l,_⟩:=y9 g;rw[l];exact agA c
 .exact agz c j (tP i g h)
def wi{α c}{t:Tree α}{y}(h:(bif c then .fail else t).run=aa y):c=false/\t.run=aa y:=by
 cases c with
 | true=>cases h
 | false=>exact⟨rfl,h⟩
def so{base t tx ty c size x news}(g:P.underlying t=aa (.slice c))(e:(Go.sizeOf c).run P w=.ok size w)(b:Src P size tx x 0 news w) :
  (Builtin.append_ #[t,tx] ty #[.slice base 0 0,x]).run P w=.ok (.slice base 0 0) w:=by
 cases base with
 | none=>rcases b.kind with ⟨h,f⟩|f<;>simp[Builtin.append_,run_underlying g,run_underlying f,e,b.len,b.cells]
 | some j =>
   have i:news=[]:=by have:=b.newsLen;simpa using this
   subst i;rcases b.kind with ⟨h,f⟩|f<;>simp[Builtin.append_,run_underlying g,run_underlying f,e,b.len,b.cells,storeCells]
def D0 size base:(Builtin.firstCells size 0<|.slice base 0 0).run P w=.ok #[] w:=by
 cases base with
 | none=>exact run_firstCells_none w size 0 0 0
 | some b=>exact run_firstCells_some w size 0 b 0 0 [] aT (λj v c=>by cases c)
def lR{t tx ty e size x news n b sCap blk cur k h}(m:P.underlying t=aa (.slice e))(i:(Go.sizeOf e).run P w=.ok size w)
  (g:Src P size tx x n news w) (o:w.heap[blk]?=aa (.cells cur k h)) (j:nr cur h) (c:b+n<=sCap) (p:b*size+news.length<=cur.size) :
  (Builtin.append_ #[t,tx] ty #[.slice (aa ⟨blk,0,af⟩) b sCap,x]).run P w=.ok (.slice (aa ⟨blk,0,af⟩) (b+n) sCap) (w.setRow blk (ba cur.toList (b*size) news).toArray):=by
 have f:=du (P:=P) blk _ k h news 0 cur w o j ah g.one;simp at f;rcases g.kind with ⟨q,l⟩|l<;>simp[Builtin.append_,run_underlying m,run_underlying l,i,g.len,c,g.cells,addr_add,f]
def EN{cs es k o}(h:o<k)(b:k<=cs.length):(ba cs k es)[o]?=cs[o]?:=by
 rw[ba,xg,TK (by rw[dk];omega),jM,aQ h]
def HF(hc:fN P cx){nb}{t tx ty}{s x}(h:dy B N γ σ a w)(hd:∀k,d=aa k->k<N)(hk0:(∃e',P.underlying tx=aa (.slice e'))\/P.underlying tx=aa .string)
  (F:(iH cx nb d t (cW σ s) (cW σ x) σ).run=aa aV):oT P B N γ σ a w d (Builtin.append_ #[t,tx] ty #[a.eval s,a.eval x]) aV:=by
 have K:=h.cW s;have hvx:=h.cW x;unfold iH at F;split at F
 case h_2=>exact absurd F cj
 rename_i _ _ k e hT;obtain⟨C,S,f2,f3,f4⟩:=(hc.T _ _ hT).slice;have U:=f2.sizeOf w;split at F
 case h_2=>exact absurd F cj
 rename_i m hm;obtain⟨y,V,n2⟩:=adS h.ok hk0 S hvx hm;split at F
 .rename_i hs;rw[hs] at K;obtain G:a.eval s=_:=by simpa [cI] using K
  obtain⟨O,W⟩:=cP F;have O:=F1 O;obtain⟨aP,D,hr3⟩:=dV W;obtain rfl:=aI hr3;rw[G];rcases Za m.length with A|A
  .obtain rfl:m=[]:=yZ.1 A;obtain⟨m1,p⟩:=h.ok.LH D f4;refine⟨_,_,_,so S U V,h.step p m1 (hd k rfl) ?_,p⟩;exact⟨⟨_,rfl,rfl⟩,gE (bD _ _) rfl ⟨e,0,rfl,rfl,.inl ⟨by simp[bP],rfl⟩⟩⟩
  .obtain⟨g,f,g1,g2,M,g4,g5⟩:=Cb (l:=([])) (sCap:=0) (olds:=[]) S f2 f3 (by simpa using run_firstCells_none w.drew e.size 0 0 0) aT (λi x hx=>by cases hx) V n2
    (by simpa using A) (by simpa using O)
   simp at g1 g2 g5;obtain⟨m1,p⟩:=h.ok.LG D f4 ((we.refl B w).drew.alloc h.ok.base _) (cZ w.drew _) (heap_alloc_new w.drew _) (xw _ _) (.inl rfl) g2 M g4 g5;refine⟨_,_,_,g1,h.step p m1 (hd k rfl) ?_,p⟩;exact zK rfl rfl
 .rename_i b aP hs;rw[hs] at K;split at F
  case h_2=>exact absurd F cj
  rename_i bx l X hl;obtain⟨vi,hb',D,c,Y⟩:∃bx,σ.mem b=aa bx/\bx.aP=aP/\bx.buf=true/\bx.val=.data (.slice e) l:=by
   rcases oc hl with q|⟨q,_⟩|⟨b',aof,vi,q,h1,Q,h3,h4⟩|⟨_,_,_,_,_,q,_⟩
   .cases q
   .cases q
   .grind
   .cases q
  obtain rfl:bx=vi:=aI (X.symm.trans hb')
  .obtain⟨hlk,hr1⟩:=wi F;obtain⟨O,W⟩:=cP hr1;obtain rfl:=aI W;have O:l.length+m.length<=4294967296:=by
    have:fits (((l.length+m.length)):Int)=true:=by rw[<-O];simp[plus,len]
    exact F1 this
   have R:bx.tid=0\/C=bx.tid:=by
    simp at hlk;have Q:=hlk.2;unfold ait at Q;simp at Q;rcases Q with Q|Q
    .simp_all
    .split at Q
     .rename_i e' he';have:=hc.els _ _ he';simp_all
     .cases Q
   subst D;obtain⟨e2,n2',g1,g2,M⟩:=bk X rfl K.2;rw[Box.dT c Y] at g2;obtain⟨rfl,rfl⟩:=eN (aI g2);have hat:=h.ok.boxes b bx X;rw[eB,c] at hat;obtain⟨e3,l3,q1,q2,Z⟩:=hat;rw[Y] at q1;cases q1;have r:(app l m).length=l.length+m.length:=iC;rcases M with ⟨M,g4⟩|⟨E,g,M,g4⟩
   .obtain G:a.eval s=_:=by simpa using g4
    have hl0:l=[]:=by
     grind
    subst hl0;rw[G];rcases Za m.length with A|A
    .obtain rfl:m=[]:=yZ.1 A;have H:eB (bP γ b af) (dn σ.mem b { bx with val:=.data (.slice e) ([]:List e.den),aP:=bx.aP+1 }) w b { bx with val:=.data (.slice e) ([]:List e.den),aP:=bx.aP+1 }:=by
      simp only[c];exact⟨e,[],rfl,f4,.inl ⟨by simp[bP],rfl⟩⟩
     have z:∀n,σ.mem b=aa n->n.aP<bx.aP+1:=λn A=>by rw[X] at A;obtain rfl:=aI A;omega
     have m1:=h.ok.add z (we.refl B w) (λ_ _=>rfl) (λE k e=>by cases e) H;have p:=wg (L:=af) h.ok (bx:={ bx with val:=.data (.slice e) ([]:List e.den),aP:=bx.aP+1 }) z (we.refl B w) (λ_ _=>rfl);refine⟨_,_,_,so S U V,h.step p m1 (hd k rfl) ?_,p⟩;exact⟨⟨_,rfl,rfl⟩,gE (bD _ _) rfl ⟨e,0,c,Box.dT (bx:={ bx with val:=.data (.slice e) ([]),aP:=bx.aP+1 }) c rfl,.inl ⟨by simp[bP],rfl⟩⟩⟩
    .obtain⟨g,f,j1,j2,j3,j4,j5⟩:=Cb (I:=γ.I) (ty:=ty) (l:=([])) S f2 f3 (by simpa using D0 e.size af) aT (λi x hx=>by cases hx) V n2
      (by simpa using A) (by simpa using O)
     have z:∀n,σ.mem b=aa n->n.aP<bx.aP+1:=λn A=>by rw[X] at A;obtain rfl:=aI A;omega
     have hw:we B w (w.drew.alloc<|.cells f C):=(we.refl B w).drew.alloc h.ok.base _;have p:=wg (L:=aa (w.heap.size,g)) h.ok (bx:={ bx with val:=.data (.slice e) (app (α:=e.den) [] m),aP:=bx.aP+1 }) z hw (cZ w.drew _);have H:eB (bP γ b<|some (w.heap.size,g)) (dn σ.mem b { bx with val:=.data (.slice e) (app (α:=e.den) [] m),aP:=bx.aP+1 }) (w.drew.alloc<|.cells f C) b { bx with val:=.data (.slice e) (app (α:=e.den) [] m),aP:=bx.aP+1 }:=by
      simp only[c];exact⟨e,_,rfl,f4,.inr ⟨w.heap.size,g,f,C,_,by simp[bP],heap_alloc_new w.drew _,xw _ _,R,by rw[r];exact j2,j3,j4,λi x hi=>bJ.mono p.I p.cells (j5 i x hi)⟩⟩
     have m1:=h.ok.add (L:=aa _) z hw (cZ w.drew _) (λE k e=>by obtain⟨rfl,rfl⟩:=eN (aI e);exact⟨bV _,(xe.1<|heap_alloc_new w.drew _).1⟩) H;refine⟨_,_,_,j1,h.step p m1 (hd k rfl) ?_,p⟩;exact zK c (by rw[<-r];exact Box.dT c rfl)
   .obtain G:a.eval s=_:=by simpa using g4
    rw[G];rcases Z with ⟨Z,_⟩|⟨LN,adO,u,tid,fr,Z,q4,q5,akg,q6,q7,q8,q9⟩
    .rw[M] at Z;cases Z
    rw[M] at Z;obtain⟨rfl,rfl⟩:=eN (aI Z);have hcl:u.toList.length=g*e.size:=by simpa using q8
    have hlc:l.length*e.size<=g*e.size:=gW _ q6;rcases tL g _ with hgt|hle
    .have hfc:=run_firstCells_some (P:=P) w.drew e.size l.length ⟨E,0,af⟩ l.length g (u.toList.take<|l.length*e.size) (by rw[dk];omega) (λj v hj=>by
      rw[addr_add];show w.cell? ⟨E,0+j,af⟩=aa v
      rw[cell_of_heap q4];rw[jM] at hj;split at hj
      .grind
      .cases hj)
     obtain⟨J,f,j1,j2,j3,j4,j5⟩:=Cb S f2 f3 hfc (by rw[dk];omega) (fa.front q9 (bV _) ah) V n2 hgt O;have z:∀n,σ.mem b=aa n->n.aP<bx.aP+1:=λn A=>by rw[X] at A;obtain rfl:=aI A;omega
     have hw:we B w (w.drew.alloc<|.cells f C):=(we.refl B w).drew.alloc h.ok.base _;have p:=wg (L:=aa (w.heap.size,J)) h.ok (bx:={ bx with val:=.data (.slice e) (app (α:=e.den) l m),aP:=bx.aP+1 }) z hw (cZ w.drew _);have H:eB (bP γ b<|some (w.heap.size,J)) (dn σ.mem b { bx with val:=.data (.slice e) (app (α:=e.den) l m),aP:=bx.aP+1 }) (w.drew.alloc<|.cells f C) b { bx with val:=.data (.slice e) (app (α:=e.den) l m),aP:=bx.aP+1 }:=by
      simp only[c];exact⟨e,_,rfl,f4,.inr ⟨w.heap.size,J,f,C,_,by simp[bP],heap_alloc_new w.drew _,xw _ _,R,by rw[r];exact j2,j3,j4,λi x hi=>bJ.mono p.I p.cells (j5 i x hi)⟩⟩
     have m1:=h.ok.add z hw (cZ w.drew _) (λE k e=>by obtain⟨rfl,rfl⟩:=eN (aI e);exact⟨bV _,(xe.1<|heap_alloc_new w.drew _).1⟩) H;refine⟨_,_,_,j1,h.step p m1 (hd k rfl) ?_,p⟩;exact zK c (by rw[<-r];exact Box.dT c rfl)
    .have hnl:=V.newsLen;have hmul:_*e.size<=g*e.size:=gW _ hle;rw[iE] at hmul;have hlen:l.length*e.size+y.length<=u.toList.length:=by rw[hnl,hcl];exact hmul
     have aiD:=lR (ty:=ty) S U V q4 q5.th hle (by simpa using hlen);have alG:(ba u.toList (l.length*e.size) y).toArray.size=u.size:=by have:=bO hlen;simpa using this
     obtain⟨m1,p⟩:=h.ok.grow X c Y M q4 q5 akg (cur':=(ba u.toList _ y).toArray) (l':=app l m) alG (λo ho=>by
      have:=EN (es:=y) ho (by omega:l.length*e.size<=u.toList.length);simpa using this) f4 ah (by rw[r];exact hle) q7 q8 (by
      have:=(fa.front q9 (bV _) (by omega:l.length*e.size<=u.toList.length)).append (rest:=u.toList.drop (l.length*e.size+y.length)) n2 (by rw[dk];omega) hnl;exact this)
     refine⟨_,_,γ,aiD,h.step p m1 (hd k rfl) ?_,p⟩;exact⟨⟨_,rfl,rfl⟩,gE (bD _ _) rfl ⟨e,l.length+m.length,c,by rw[<-r];exact Box.dT (bx:={ bx with val:=.data (.slice e) _,aP:=bx.aP+1 }) c rfl,.inr ⟨E,g,M,rfl⟩⟩⟩
 .exact absurd F cj
end
end Go.Ge
namespace Go.Ge
open RowKit
def jR(w:World)(I:Nat->Nat->Prop):(A:Ty)->A.den->List Value->Prop
 | .pair t r,x,vs=>∃c b,vs=cY t c::b/\bJ w I t x.1 c/\jR w I r x.2 b
 | .unit,_,vs=>vs=[]
 | _,_,_=>False
def lS(w:World)(I:Nat->Nat->Prop)(R:Ty)(y:R.den)(v:Value):Prop:=cI ⟨I,λ_=>af⟩ (λ_=>af) w (r9 R y) .val [v]
structure Holds (P:Program) (G:D7) (f:Nat) (c:Rt):Prop where
 body:∃fn code,P.funcs[f]?=aa fn/\(fn.name == "runtime.NumGoroutine")=false/\fn.body=aa code
 calls:∀(I:Nat->Nat->Prop) (w:World) (args:Array Value) (x:c.A.den) (y:c.R.den),(∀b o,I b o->b<w.heap.size)->EG G w->jR w I c.A x args.toList->c.spec x=aa y ->
  Calls P f args w λe w'=>∃v I',e=.returned v/\Below w.heap.size w w'/\(∀b o,I b o->I' b o)/\(∀b o,I' b o->b<w'.heap.size)/\(∀b o,I' b o->¬I b o->w.heap.size<=b)/\lS w' I' c.R y v
def AE(P:Program)(G:D7)(g:String)(c:Rt):Prop :=
 ∀(I:Nat->Nat->Prop) (w:World) (v:Value) (i:List Value) (x:c.A.den) (y:c.R.den),(∀b o,I b o->b<w.heap.size)->EG G w->jR w I c.A x (v::i)->c.spec x=aa y ->
  ∃f u,(callMethod v g i.toArray).run P w=(callFunc f (u::i).toArray).run P w/\(∃k h,P.funcs[f]?=aa k/\(k.name == "runtime.NumGoroutine")=false/\k.body=aa h) /\
  Calls P f (u::i).toArray w λe w'=>∃v j,e=.returned v/\Below w.heap.size w w'/\(∀b o,I b o->j b o)/\(∀b o,j b o->b<w'.heap.size)/\(∀b o,j b o->¬I b o->w.heap.size<=b)/\lS w' j c.R y v
def LS{P G name B R}:AE P G name ⟨.pair .BX B,R,λ_=>af⟩:=λI w v b x y _ _ _ h=>by cases h
def oe{P G name}{u f:Nat}{a r B R:Ty}{s:a.den×B.den->Option R.den}{t:r.den×B.den->Option R.den}(h:Holds P G f ⟨.pair a B,R,s⟩)
  (o:∀v w,(method (P.types.size+Made.depth) u v name).run P w=.ok (f,v) w) (L:r.isAgg=false) (A:AE P G name ⟨.pair r B,R,t⟩) :
  AE P G name ⟨.pair (.alt u a r) B,R,λx=>pick (λy=>s (y,x.2)) (λz=>t (z,x.2)) x.1⟩:=by
 intro I w v b x y g i C j;obtain⟨D,E⟩:=x;obtain⟨F,k,H,l,m⟩:=C;obtain⟨n,rfl⟩:=adm H;rcases D with p|q
 .obtain⟨M,c,rfl,J⟩:=l;refine⟨f,cY a c,?_,h.body,h.calls I w (cY a c::b).toArray _ y g i ⟨c,b,rfl,J,m⟩ j⟩;have K:v=.iface u (cY a c):=by
   rw[n];show cY r [Value.iface u _]=_
   unfold cY
   grind
  rw[K];have e:=o (cY a c) w;unfold callMethod;simp only[Sem.run_bind,run_program,Result.andThen_ok,e];simp
 .exact A I w v b (q,E) y g i ⟨F,b,by rw[n];rfl,l,m⟩ j
def bF.far{B γ mem w w'}(h:bF B γ mem w)(e:Below w.heap.size w w'){I'}(n:∀b o,γ.I b o->I' b o)(j:∀b o,I' b o->b<w'.heap.size)
  (f:∀b o,I' b o->¬γ.I b o->w.heap.size<=b):bF B ⟨I',γ.loc⟩ mem w'/\Ext B γ mem w ⟨I',γ.loc⟩ mem w':=by
 have hx:Ext B γ mem w ⟨I',γ.loc⟩ mem w' :=
  { below:=.of ⟨e.os,e.tape,e.output,e.size,λk p=>e.block k (zv p h.base)⟩
    I:=n
    r4:=λb o x=>by
     by_cases hi:γ.I b o
     .grind
     .exact .inr (.inl<|fi h.base<|f b o x hi)
    cells:=λb o hi=>dF (e.block b<|h.vg b o hi)
    boxes:=λb l hb=>⟨l,hb,bV _,λ_=>⟨rfl,rfl,rfl⟩⟩ }
 refine⟨?_,hx⟩;exact
  { vh:=h.FP hx
    base:=fi h.base e.size
    boxes:=λb l hb=>(h.boxes b l hb).keep hx rfl λc k i=>e.block c (h.fresh b c k (by rw[hb];simp) i).2
    inj:=h.inj
    fresh:=λb c k hb i=>by have:=h.fresh b c k hb i;exact⟨this.1,zv this.2 e.size⟩
    vg:=j
    sep:=λb l c k g hb i hi=>by
     by_cases m:γ.I c g
     .exact h.sep b l c k g hb i m
     .have q:=f c g hi m;have r:=(h.fresh b c k (by rw[hb];simp) i).2;omega }
def aaO{w γ bE mem mem'}(f:∀b o,γ.I b o->bE.I b o):∀{R y vs},cI γ mem w (B0 R y) .many vs->cI bE mem' w (B0 R y) .many vs:=by
 intro R;induction R with
 | pair t r g e =>
   intro y vs h;obtain⟨v,c,i,⟨j,k,l⟩,m⟩:=h;exact⟨v,c,i,⟨j,bJ.mono f (λ_ _ _=>rfl) k,l⟩,e m⟩
 | _=>intro y vs h;exact h
def F3(R:Ty) y:(∃t,∃q:R=.pair t .unit,r9 R y=.data t (show(Ty.pair t .unit).den from q▸y).1)\/r9 R y=.BR (B0 R y):=by
 cases R with
 | pair t r =>
   cases r with
   | unit=>exact .inl ⟨t,rfl,rfl⟩
   | _=>exact .inr rfl
 | _=>exact .inr rfl
def lS.rep{w I R y v}(h:lS w I R y v){γ mem}(i:∀b o,I b o->γ.I b o):cI γ mem w (r9 R y) .val [v]:=by
 unfold lS at h;rcases F3 R y with ⟨t,q,c⟩|c
 .rw[c] at h⊢;obtain⟨j,e,f⟩:=h;exact⟨j,bJ.mono i (λ_ _ _=>rfl) e,f⟩
 .rw[c] at h⊢;obtain⟨g,e,f⟩:=h;exact⟨g,e,aaO i f⟩
def LU{w w' γ bE mem mem'}:∀{R y vs},R.flat=true->cI γ mem w (B0 R y) .many vs->cI bE mem' w' (B0 R y) .many vs:=by
 intro R;induction R with
 | pair t r f e =>
   intro y vs c h;simp only[Ty.flat,gw] at c;obtain⟨v,b,g,⟨i,j,k⟩,l⟩:=h;exact⟨v,b,g,⟨i,bJ.flat c.1 j,k⟩,e c.2 l⟩
 | _=>intro y vs c h;exact h
def lS.flat{w w' I R y v}(h:lS w I R y v){γ mem}(b:R.flat=true):cI γ mem w' (r9 R y) .val [v]:=by
 unfold lS at h;rcases F3 R y with ⟨t,q,c⟩|c
 .rw[c] at h⊢;subst q;simp only[Ty.flat,gw] at b;obtain⟨i,e,f⟩:=h;exact⟨i,bJ.flat b.1 e,f⟩
 .rw[c] at h⊢;obtain⟨g,e,f⟩:=h;exact⟨g,e,LU b f⟩
section
variable {P:Program} {B:B5} {N:Nat} {γ:Gh} {σ aV:St} {a:Act} {w w':World} {d:Option Nat} {cx:Ctx}
def B7.alH{I I' e l v}(h:B7 w I e l v)(s:∀b o,I b o->I' b o)(t:∀f g k,v=.slice (aa ⟨f,g,af⟩) l.length k->l≠[]->∀o,I' f o) :
  bJ w I' (.slice e) l [v]:=by
 rcases h with ⟨rfl,m,k,n,q,r⟩|⟨f,g,k,n,q,r,u⟩
 .rcases r with rfl|⟨f,g,rfl⟩
  .exact .inl ⟨⟨m,by rw[n]⟩,rfl⟩
  .exact .inr ⟨f,g,k,by rw[n];rfl,pW _,q,λi x p=>by cases p⟩
 .refine .inr ⟨f,g,k,by rw[n],q,r,λi x p=>?_⟩;obtain⟨y,z,A,C⟩:=u i x p;exact⟨y,z,λj c D=>⟨A j c D,t f g k n (λe=>by rw[e] at p;cases p) _⟩,bJ.mono s (λ_ _ _=>rfl) C⟩
def RN(x:bF B γ σ.mem w){e v l blk off n cap}(y:cI γ σ.mem w v .val [.slice (aa ⟨blk,off,af⟩) n cap])(D:jv e σ v=aa l)(j:l≠[]) :
  (∃q,v=.data (.slice e) q)\/(B.has blk/\blk<w.heap.size):=by
 rcases oc D with rfl|⟨rfl,rfl⟩|⟨b,r,E,rfl,m,f,z,F⟩|⟨b,r,K,L,E,rfl,m,f,s⟩
 .exact .inl ⟨_,rfl⟩
 .exact absurd rfl j
 .obtain⟨G,k,M,H,o⟩:=bk m f y.2;rcases o with ⟨o,A⟩|⟨g,h,o,A⟩
  .grind
  .have i:blk=g:=by
    grind
   subst i;exact .inr (x.fresh b blk h (by rw[m];simp) o)
 .obtain⟨G,k,H,o,A,O,C,h,I,Q,R,S,p⟩:=bk m f y.2;have t:=vH I;rcases p with p|⟨g,c,p,u⟩
  .exfalso;apply j;rcases s with ⟨_,J,_,rfl⟩|⟨_,T,J,_,rfl⟩<;>simp[sub,p]
  .injection t with i _ _
   rw[u] at i;injection i with i
   injection i with i _
   subst i;exact .inr (x.fresh b blk c (by rw[m];simp) p)
def EO(F:bF B γ σ.mem w){I'}(G:∀b o,γ.I b o->I' b o)(J:∀b o,B.has b->b<w.heap.size->I' b o):∀{v t x cs},
  cI γ σ.mem w v .cells cs->tu σ t v=aa x->bJ w I' t x cs:=by
 have m:∀{v e l cs},dQ v=1->(∀c,cI γ σ.mem w v .cells [c]->cI γ σ.mem w v .val [c])->(∀t x,v≠.data t x)->cI γ σ.mem w v .cells cs->jv e σ v=aa l->bJ w I' (.slice e) l cs:=by
  intro v e l cs A i K h f;obtain⟨c,rfl⟩:=I6 h A;have hv:=i c h;refine(tP F hv f).alH G λL M O Q C o=>?_;subst Q;rcases RN F hv f C with ⟨q,j⟩|⟨H,W⟩
  .grind
  .grind
 intro v;induction v with
 | data u y =>
   intro t x cs h f;have key:(∃q:u=t,x=q▸y):=by
    cases t with
    | slice e =>
      rcases oc f with g|⟨g,_⟩|⟨_,_,_,g,_⟩|⟨_,_,_,_,_,g,_⟩
      .injection g with R S;subst R;exact⟨rfl,(eq_of_heq S).symm⟩
      .cases g
      .cases g
      .cases g
    | _=>exact Ty.lQ f
   obtain⟨q,j⟩:=key;subst q;subst j;exact bJ.mono G (λ_ _ _=>rfl) h
 | mix p q D E =>
   intro t x cs h f;cases t with
   | pair s r =>
     obtain⟨T,U,rfl,A,H⟩:=h;obtain⟨y,z,V,j,rfl⟩:=FY f;exact⟨T,U,rfl,D A V,E H j⟩
   | slice e=>exact absurd f cj
   | _=>cases f
 | p7 =>
   intro t x cs h f;cases t with
   | slice e=>exact m (v:=.p7) rfl (λc k=>k) (λ_ _=>aT) h f
   | _=>cases f
 | whole b aP =>
   intro t x cs h f;cases t with
   | slice e=>exact m (v:=.whole b aP) rfl (λc k=>k) (λ_ _=>aT) h f
   | _=>cases f
 | part b aP lo n =>
   intro t x cs h f;cases t with
   | slice e=>exact m (v:=.part b aP lo n) rfl (λc k=>k) (λ_ _=>aT) h f
   | _=>cases f
 | ve =>
   intro t x cs h f;obtain rfl:cs=[.nilIface]:=h;exact(rD f).1 _ _
 | _ =>
   intro t x cs h f;cases t with
   | slice e=>exact absurd f cj
   | _=>cases f
def LV(j:bF B γ σ.mem w){I'}(k:∀b o,γ.I b o->I' b o)(h:∀b o,B.has b->b<w.heap.size->I' b o){v t x val}
  (f:cI γ σ.mem w v .val [val]) (c:tu σ t v=aa x):∃i,bJ w I' t x i/\val=cY t i:=by
 have one:∀{v},cI γ σ.mem w v .cells [val]->(∃e,t=.slice e)->tu σ t v=aa x->∃i,bJ w I' t x i/\val=cY t i:=by
  intro v z A c;obtain⟨e,rfl⟩:=A;exact⟨[val],EO j k h z c,rfl⟩
 cases v with
 | data u y =>
   obtain⟨i,l,m⟩:=eg.1 f;have z:=EO j k h (v:=.data u y) l c;rw[m];have:u.isAgg=t.isAgg:=by
    cases t with
    | slice e =>
      rcases oc c with g|⟨g,_⟩|⟨_,_,_,g,_⟩|⟨_,_,_,_,_,g,_⟩
      .injection g with C G;rw[C]
      .cases g
      .cases g
      .cases g
    | _=>obtain⟨q,_⟩:=Ty.lQ c;rw[q]
   unfold cY
   grind
 | mix p q =>
   obtain⟨D,E,F,l,m⟩:=f;obtain rfl:val=_:=by simpa using F
   refine⟨_,(EO j k h (v:=.mix p q) ⟨D,E,rfl,l,m⟩ c),?_⟩;cases t with
   | pair s r=>rfl
   | slice e=>exact absurd c cj
   | _=>cases c
 | p7=>cases t with
   | slice e=>exact one f ⟨e,rfl⟩ c
   | _=>cases c
 | whole b aP=>cases t with
   | slice e=>exact one f ⟨e,rfl⟩ c
   | _=>cases c
 | part b aP lo n=>cases t with
   | slice e=>exact one f ⟨e,rfl⟩ c
   | _=>cases c
 | ve =>
   have f:[val]=[Value.nilIface]:=f;obtain rfl:val=.nilIface:=by simpa using f
   exact⟨[.nilIface],(rD c).1 _ _,(rD c).2.2.1.symm⟩
 | _=>cases t with
   | slice e=>exact absurd c cj
   | _=>cases c
def lT(e:Gh)(mem:Nat->Option Box)(w:World)(b:List cp)(c:List Value):Prop:=c.length=b.length/\∀(i:Nat) v x,b[i]?=aa v->c[i]?=aa x->cI e mem w v .val [x]
def lT.cons{mem v vs b}(h:lT γ mem w (v::vs) b):∃x r,b=x::r/\cI γ mem w v .val [x]/\lT γ mem w vs r:=by
 cases b with
 | nil=>cases h.1
 | cons x r=>exact⟨x,r,rfl,h.2 0 v x rfl rfl,by simpa using h.1,λi c e f g=>h.2 (i+1) c e f g⟩
def lT.ext{mem mem' bE vs b}(h:lT γ mem w vs b)(c:Ext B γ mem w bE mem' w'):lT bE mem' w' vs b:=⟨h.1,λi v x e f=>(h.2 i v x e f).ext c⟩
def OJ(j:bF B γ σ.mem w){I'}(k:∀b o,γ.I b o->I' b o)(g:∀b o,B.has b->b<w.heap.size->I' b o):∀{A x vs e},
  lT γ σ.mem w vs e->jj σ A vs=aa x->jR w I' A x e:=by
 intro A;induction A with
 | pair t r l i =>
   intro x vs e h c;cases vs with
   | nil=>cases c
   | cons v vs =>
     obtain⟨y,f,rfl,m,n⟩:=h.cons;simp only[jj] at c;split at c
     .rename_i p q s u;obtain rfl:=aI c;obtain⟨z,C,D⟩:=LV j k g m s;exact⟨z,f,by rw[D],C,i n u⟩
     .cases c
 | unit =>
   intro x vs e h c;cases vs with
   | nil=>exact yZ.1 h.1
   | cons v vs=>cases c
 | _=>intro x vs e h c;cases vs<;>cases c
def km:∀{A x vs c σ aV γ},dy B N γ σ a w->lT γ σ.mem w vs c->gB σ A vs=aa (x,aV) ->
  ∃bE,dy B N bE aV a w/\Ext B γ σ.mem w bE aV.mem w/\jR w bE.I A x c:=by
 intro A;induction A with
 | pair t r m g =>
   intro x vs c σ aV γ h f b;cases vs with
   | nil=>cases b
   | cons v vs =>
     obtain⟨y,e,rfl,n,o⟩:=f.cons;simp only[gB] at b;split at b
     .rename_i p bM s;split at b
      .rename_i q cH u;obtain⟨rfl,rfl⟩:=eN (aI b);obtain⟨z,C,l,D,E,i⟩:=od h n s;obtain i:y=_:=by simpa using i
       obtain⟨j,F,k,G⟩:=g C (o.ext l) u;exact⟨j,F,l.trans k,D,e,by rw[i],bJ.mono k.I k.cells E,G⟩
      .cases b
     .cases b
 | unit =>
   intro x vs c σ aV γ h f b;cases vs with
   | nil=>obtain⟨rfl,rfl⟩:=eN (aI b);exact⟨γ,h,Ext.refl _ _ _ _,yZ.1 f.1⟩
   | cons v vs=>cases b
 | _=>intro x vs c σ aV γ h f b;cases vs<;>cases b
def adT(w:World)(I:Nat->Nat->Prop)(t:Ty)(x:t.den)(c:Nat):Prop:=∃b tid e,w.heap[c]?=aa (.cells b tid e)/\nr b e/\bJ w I t x b.toList
def sq(w:World)(I:Nat->Nat->Prop):(U:Ty)->U.den->List Nat->Prop
 | .pair t U,u,c=>∃b r,c=b::r/\adT w I t u.1 b/\sq w I U u.2 r
 | .unit,_,c=>c=[]
 | _,_,_=>False
def P4(w:World)(I:Nat->Nat->Prop):List Bool->(A U:Ty)->A.den->List Value->List Nat->Prop
 | [],A,U,_,vs,c=>A=.unit/\U=.unit/\vs=[]/\c=[]
 | false::ps,A,U,x,vs,c=>match A,x with
   | .pair t A,x=>∃f b,vs=cY t f::b/\bJ w I t x.1 f/\P4 w I ps A U x.2 b c
   | _,_=>False
 | true::ps,A,U,x,vs,c=>match U with
   | .pair _ U=>∃e b r,vs=.pointer (aa ⟨e,0,af⟩)::b/\c=e::r/\P4 w I ps A U x b r
   | _=>False
structure RO (P:Program) (G:D7) (f:Nat) (c:T9):Prop where
 body:∃fn code,P.funcs[f]?=aa fn/\(fn.name == "runtime.NumGoroutine")=false/\fn.body=aa code
 calls:∀(I:Nat->Nat->Prop) (w:World) (args:Array Value) (bs:List Nat) (x:c.A.den) (u:c.U.den) (y:c.R.den×c.U.den),(∀b o,I b o->b<w.heap.size)->EG G w->(∀b Q,G b Q->b∉bs)->P4 w I c.ps c.A c.U x args.toList bs->sq w I c.U u bs->bs.Nodup ->
  (∀blk∈bs,∀o,¬I blk o)->c.spec (x,u)=aa y ->
  Calls P f args w λe w'=>∃v I',e=.returned v/\we ⟨w.heap.size,(·∈bs),G⟩ w w'/\(∀b o,I b o->I' b o)/\(∀b o,I' b o->b<w'.heap.size)/\(∀b o,I' b o->¬I b o->w.heap.size<=b)/\lS w' I' c.R y.1 v/\sq w' I' c.U y.2 bs
def adU(w:World)(I:Nat->Nat->Prop)(T:Nat)(t:Ty)(r:t.den)(F:Nat)(h:List Nat)(e:Nat):Prop :=
 ∃c tid f g,w.heap[e]?=aa (.cells c tid f)/\nr c f/\(T=0\/tid=T)/\c.toList=g++[.func (.func F) #[] (h.map λb=>Value.pointer (aa ⟨b,0,af⟩)).toArray]/\bJ w I t r g
structure oh (P:Program) (G:D7) (f:Nat) (c:Hp):Prop where
 body:∃fn code,P.funcs[f]?=aa fn/\(fn.name == "runtime.NumGoroutine")=false/\fn.body=aa code
 calls:∀(I:Nat->Nat->Prop) (w:World) (args:Array Value) (rest:List Value) (blk:Nat) (bs:List Nat) (r:c.t.den) (x:c.A.den) (u:c.U.den) (y:c.R.den×c.U.den),(∀b o,I b o->b<w.heap.size)->EG G w->(∀b Q,G b Q->b∉blk::bs) ->
  args.toList=.pointer (aa ⟨blk,0,af⟩)::rest->jR w I c.A x rest->adU w I c.T c.t r c.F bs blk->sq w I c.U u bs->(blk::bs).Nodup->(∀k∈blk::bs,∀o,¬I k o)->c.spec ((r,x),u)=aa y ->
  Calls P f args w λe w'=>∃v I',e=.returned v/\we ⟨w.heap.size,(·∈blk::bs),G⟩ w w'/\(∀b o,I b o->I' b o)/\(∀b o,I' b o->b<w'.heap.size)/\(∀b o,I' b o->¬I b o->w.heap.size<=b)/\lS w' I' c.R y.1 v/\sq w' I' c.U y.2 bs/\adU w' I' c.T c.t r c.F bs blk
structure yo (og:Option Nat) (w w':World):Prop where
 os:w'.os=w.os
 tape:w'.tape=w.tape
 output:w'.output=w.output
 size:w.heap.size<=w'.heap.size
 block:∀k,k<w.heap.size->og≠aa k->w'.heap[k]?=w.heap[k]?
 cell:∀k o,k<w.heap.size->w'.cell? ⟨k,o,af⟩=w.cell? ⟨k,o,af⟩
def xC(w:World)(I:Nat->Nat->Prop)(e:Ty)(l:List e.den)(L:Option (Nat×Nat))(v:Value):Prop :=
 (L=af/\l=[]/\v=.slice af 0 0)\/∃c b f tid g,L=aa (c,b)/\v=.slice (aa ⟨c,0,af⟩) l.length b/\w.heap[c]?=aa (.cells f tid g)/\ThB e f g /\
  l.length<=b/\b<=maxLen/\f.size=b*e.size/\(∀o,¬I c o)/\∀(i:Nat) (x:e.den),l[i]?=aa x->bJ w I e x ((f.toList.drop<|i*e.size).take e.size)
structure lU (w:World) (I:Nat->Nat->Prop) (X:Nat->Prop) (w':World) (I':Nat->Nat->Prop):Prop where
 below:we ⟨w.heap.size,X,dE⟩ w w'
 held:∀b o,I b o->I' b o
 vg:∀b o,I' b o->b<w'.heap.size
 r4:∀b o,I' b o->¬I b o->w.heap.size<=b
def pR(P:Program)(f:Nat):Spc->Prop
 | .chk T=>(∃i h,P.funcs[f]?=aa i/\(i.name == "runtime.NumGoroutine")=false/\i.body=aa h) /\
  ∀(w:World) (b:Nat) (p v:Value) (r:Nat×Nat),w.heap[b]?=aa (.cells #[p,v] T r)->¬(r.1<=0/\0<r.2)->(p=.pointer af\/p=.pointer (aa ⟨b,0,af⟩)) ->
   Calls P f #[.pointer<|some ⟨b,0,af⟩] w λe w'=>e=.returned (.tuple #[])/\(w'=w\/w'=w.setRow b #[.pointer<|some ⟨b,0,af⟩,v])
 | .str T E=>(∃i h,P.funcs[f]?=aa i/\(i.name == "runtime.NumGoroutine")=false/\i.body=aa h) /\
  ∀(w:World) (b:Nat) (p v:Value) (r:Nat×Nat) (l:bb) (s:Option Nat),w.heap[b]?=aa (.cells #[p,v] T r) ->
   ((s=af/\v=.slice af 0 0/\l=[])\/∃(g cap:Nat) (cur:Array Value) (fr':Nat×Nat),s=aa g/\v=.slice (aa ⟨g,0,af⟩) l.length cap/\w.heap[g]?=aa (.cells cur E fr')/\l.length<=cap/\cap<=maxLen/\cur.size=cap/\∀(j:Nat) (x:UInt8),l[j]?=aa x->cur[j]?=aa (Value.int .u8 x.toNat)) ->
   Calls P f #[.pointer<|some ⟨b,0,af⟩] w λe w'=>e=.returned (.string ⟨l.toArray⟩)/\yo s w w'
 | .clone e=>(∃i h,P.funcs[f]?=aa i/\(i.name == "runtime.NumGoroutine")=false/\i.body=aa h) /\
  ∀(I:Nat->Nat->Prop) (w:World) (args:Array Value) (l:List e.den),(∀b o,I b o->b<w.heap.size)->jR w I (.pair (.slice e) .unit) (l,()) args.toList->fits (len l)=true ->
   Calls P f args w λq w'=>∃v n L,q=.returned v/\lU w I (λ_=>False) w' n/\xC w' n e l L v/\∀m c,L=aa (m,c)->w.heap.size<=m
 | .own e A res spec=>(∃i h,P.funcs[f]?=aa i/\(i.name == "runtime.NumGoroutine")=false/\i.body=aa h) /\
  ∀(I:Nat->Nat->Prop) (w:World) (args:Array Value) (v:Value) (rest:List Value) (l l':List e.den) (L:Option (Nat×Nat)) (x:A.den),(∀b o,I b o->b<w.heap.size)->args.toList=v::rest->xC w I e l L v->jR w I A x rest->spec l x=aa l' ->
   Calls P f args w λq w'=>∃n,lU w I (λk=>∃c,L=aa (k,c)) w' n /\
    match res with
    | true=>∃t u,q=.returned t/\xC w' n e l' u t/\∀m c,u=aa (m,c)->(∃c,L=aa (m,c))\/w.heap.size<=m
    | false=>q=.returned (.tuple #[])/\l'.length=l.length/\xC w' n e l' L v
structure pS (P:Program) (G:D7) (cx:Ctx):Prop where
 Ua:∀f c,find cx.Ua f=aa c->Holds P G f c
 OA:∀f c,find cx.OA f=aa c->RO P G f c
 PV:∀f s,find cx.PV f=aa s->pR P f s
 inv:∀name c,PW cx.inv name=aa c->AE P G name c
 Ru:∀f c,find cx.Ru f=aa c->oh P G f c
def Refs(i:Gh)(e:Nat->Option Box):(U:Ty)->U.den->List Nat->List Nat->Prop
 | .pair t U,u,g,h=>∃b r f q c k,g=b::r/\h=f::q/\b∉r/\e b=aa c/\c.buf=false/\c.lk=false/\(c.ro=false/\c.tid=0)/\c.val=.data t u.1/\i.loc b=aa (f,k)/\Refs i e U u.2 r q
 | .unit,_,g,h=>g=[]/\h=[]
 | _,_,_,_=>False
def Cc{l t}:dc l t=true↔t∈l:=by
 induction l with
 | nil=>simp[dc]
 | cons i r b =>
   simp only[dc];simp_all
def Refs.HG{mem}:∀{U u e f},Refs γ mem U u e f->∀c∈f,∃b g k,b∈e/\mem b=aa g/\g.ro=false/\γ.loc b=aa (c,k):=by
 intro U;induction U with
 | pair t U l m =>
   intro u e f h c i;obtain⟨b,r,j,q,g,k,rfl,rfl,n,o,p,s,v,x,y,z⟩:=h
   grind
 | unit=>intro u e f h c i;rw[h.2] at i;cases i
 | _=>intro u e f h;exact h.elim
def Refs.nodup{mem}(j:bF B γ mem w):∀{U u f c},Refs γ mem U u f c->c.Nodup:=by
 intro U;induction U with
 | pair t U l g =>
   intro u f c h;obtain⟨b,r,e,q,z,k,rfl,rfl,A,m,C,D,E,F,n,i⟩:=h;rw[adi];refine⟨λo=>?_,g i⟩;obtain⟨p,s,v,G,x,H,y⟩:=i.HG e o;have:=j.inj b p e k v (by rw[m];simp) (by rw[x];simp) n y
   grind
 | unit=>intro u f c h;rw[h.2];exact List.nodup_nil
 | _=>intro u f c h;exact h.elim
def Refs.val{mem w' I'}:∀{U u y f e},Refs γ mem U u f e->sq w' I' U y e->∀{c v},n8 U y f c=aa v ->
  ∃(t:Ty) (x z:t.den) (bx:Box) (blk k:Nat),mem c=aa bx/\bx.buf=false/\bx.lk=false/\(bx.ro=false/\bx.tid=0)/\bx.val=.data t x/\v=.data t z/\γ.loc c=aa (blk,k)/\blk∈e/\adT w' I' t z blk:=by
 intro U;induction U with
 | pair t U l m =>
   intro u y f e h i c v g;obtain⟨b,r,blk,q,bx,k,rfl,rfl,o,p,s,A,C,D,E,F⟩:=h;obtain⟨j,G,H,I,J⟩:=i;simp only[n8] at g;cases n:Nat.beq c b with
   | true =>
     obtain rfl:=gx n
     grind
   | false =>
     grind
 | unit=>intro u y f e h i c v g;cases g
 | _=>intro u y f e h;exact h.elim
def Refs.adV{mem}:∀{U u y f g},Refs γ mem U u f g->∀c∈g,∃b v i k,n8 U y f b=aa v/\mem b=aa i/\i.ro=false/\γ.loc b=aa (c,k):=by
 intro U;induction U with
 | pair t U m j =>
   intro u y f g h c e;obtain⟨b,r,l,q,i,k,rfl,rfl,z,n,A,C,o,D,p,s⟩:=h;rcases fh.1 e with rfl|e
   .exact⟨b,.data t y.1,i,k,by simp[n8],n,o.1,p⟩
   .obtain⟨E,F,x,G,H,I⟩:=j (y:=y.2) s c e;simp only[n8]
    grind
 | unit=>intro u y f g h c e;rw[h.2] at e;cases e
 | _=>intro u y f g h;exact h.elim
def LW:∀{U u e c v},n8 U u e c=aa v->c∈e:=by
 intro U;induction U with
 | pair t U i f =>
   intro u e c v h;cases e with
   | nil=>cases h
   | cons b r =>
     simp only[n8] at h;cases g:Nat.beq c b with
     | true=>obtain rfl:=gx g;exact ri ..
     | false=>rw[g] at h;exact v8 _ (f h)
 | _=>intro u e c v h;cases h
def rE{U y b σ c}:(uo U y b σ).mem c=match n8 U y b c with|some v=>(match σ.mem c with|some e=>aa { e with val:=v }|none=>af)|none=>σ.mem c:=rfl
def bF.refs(h:bF B γ σ.mem w){U u y j Q}(D:Refs γ σ.mem U u j Q){G}{X Z:Nat->Prop}(m:we ⟨w.heap.size,X,G⟩ w w'){I'}(hI:∀b o,γ.I b o->I' b o)(E:∀b o,I' b o->b<w'.heap.size)
  (F:∀b o,I' b o->¬γ.I b o->w.heap.size<=b) (R:sq w' I' U y Q)
  (W:∀k,X k->k∈Q\/∃c k',Z c/\γ.loc c=aa (k,k'))
  (S:∀c,Z c->n8 U y j c=af/\∃bx,σ.mem c=aa bx/\bx.ro=false/\(Ext B γ σ.mem w ⟨I',γ.loc⟩ (uo U y j σ).mem w'->eB ⟨I',γ.loc⟩ (uo U y j σ).mem w' c bx)) :
  bF B ⟨I',γ.loc⟩ (uo U y j σ).mem w'/\Ext B γ σ.mem w ⟨I',γ.loc⟩ (uo U y j σ).mem w':=by
 have H:∀k,X k->∃b bx k',σ.mem b=aa bx/\bx.ro=false/\γ.loc b=aa (k,k'):=λk p=>by
  rcases W k p with q|⟨c,k',q1,q2⟩
  .obtain⟨b,bx,k',g1,g2,g3,g4⟩:=D.HG k q;exact⟨b,bx,k',g2,g3,g4⟩
  .obtain⟨_,bx,g1,g2,_⟩:=S c q1;exact⟨c,bx,k',g1,g2,q2⟩
 have f:∀k,k<w.heap.size->¬X k->w'.heap[k]?=w.heap[k]?:=λk p g=>m.block k λq=>by
  rcases q with q|q
  .grind
  .grind
 have J:∀blk,X blk->B.has blk/\blk<w.heap.size:=λblk g=>by
  obtain⟨b,bx,k,g2,g3,g4⟩:=H blk g;exact h.fresh b blk k (by rw[g2];simp) g4
 have r:∀blk,X blk->∀o,¬γ.I blk o:=λblk g o C=>by
  obtain⟨b,bx,k,g2,g3,g4⟩:=H blk g;have:=(h.sep b bx blk k o g2 g4 C).1
  grind
 have K:∀k,¬B.has k->k<w.heap.size:=λk p=>Zb λq=>p (.inl<|fi h.base q);have s:∀c,(uo U y j σ).mem c≠af->σ.mem c≠none:=by
  intro c hc hq;apply hc;rw[rE]
  grind
 have hx:Ext B γ σ.mem w ⟨I',γ.loc⟩ (uo U y j σ).mem w' :=
  { below:=⟨m.os,m.tape,m.output,m.size,λk p=>f k (K k p) λg=>p (J k g).1⟩
    I:=hI
    r4:=λb o x=>by
     grind
    cells:=λb o C=>dF (f b (h.vg b o C) λg=>r b g o C)
    boxes:=λc cx hc=>by
     rw[rE,hc];cases hv:n8 U y j c with
     | none=>exact⟨cx,rfl,bV _,λ_=>⟨rfl,rfl,rfl⟩⟩
     | some v =>
       obtain⟨t,x,z,bx,blk,k,g1,g2,g3,g4,g5,g6,g7,g8,T⟩:=D.val R hv;rw[hc] at g1;obtain rfl:=aI g1;refine⟨_,rfl,bV _,λ_=>⟨rfl,rfl,?_⟩⟩;subst g6;unfold Box.row;simp only[g2,g5];cases t<;>rfl }
 refine⟨?_,hx⟩;exact
  { vh:=h.FP hx
    base:=fi h.base m.size
    boxes:=λc cx hc=>by
     by_cases L:Z c
     .obtain⟨q1,bx,q2,_,q3⟩:=S c L;rw[rE,q1] at hc;replace hc:σ.mem c=aa cx:=hc;rw[q2] at hc;obtain rfl:=aI hc;exact q3 hx
     rw[rE] at hc;cases hv:n8 U y j c with
     | none =>
       rw[hv] at hc;replace hc:σ.mem c=aa cx:=hc;refine(h.boxes c cx hc).keep hx rfl λblk k l=>?_;refine f blk (h.fresh c blk k (by rw[hc];simp) l).2 λg=>?_;rcases W blk g with g|⟨Y,k',q1,q2⟩
       .obtain⟨b,v,bx,k',g1,g2,g3,g4⟩:=D.adV (y:=y) blk g;have:=h.inj c b blk k k' (by rw[hc];simp) (by rw[g2];simp) l g4
        grind
       .obtain⟨_,bx,g2,_⟩:=S Y q1;have:=h.inj c Y blk k k' (by rw[hc];simp) (by rw[g2];simp) l q2;exact L (this▸q1)
     | some v =>
       obtain⟨t,x,z,bx,blk,k,g1,g2,g3,g4,g5,g6,g7,g8,T⟩:=D.val R hv;rw[hv,g1] at hc;obtain rfl:=aI hc;obtain⟨cur,tid,fr,j1,j2,j3⟩:=T;simp only[g2];subst g6;exact⟨blk,k,cur,tid,fr,g7,j1,j2,.inl g4.2,j3⟩
    inj:=λc d blk k k' hc hd=>h.inj c d blk k k' (s c hc) (s d hd)
    fresh:=λc blk k hc l=>by have:=h.fresh c blk k (s c hc) l;exact⟨this.1,zv this.2 m.size⟩
    vg:=E
    sep:=λc cx blk k A hc l C=>by
     obtain⟨i,hc0,hro,adN,M⟩:∃i,σ.mem c=aa i/\cx.ro=i.ro/\cx.row=i.row/\cx.buf=i.buf:=by
      rw[rE] at hc;cases hv:n8 U y j c with
      | none=>rw[hv] at hc;exact⟨cx,hc,rfl,rfl,rfl⟩
      | some v =>
        obtain⟨t,x,z,bx,LN,k',g1,g2,g3,g4,g5,g6,g7,g8,T⟩:=D.val R hv;rw[hv,g1] at hc;obtain rfl:=aI hc;refine⟨bx,g1,rfl,?_,rfl⟩;subst g6;unfold Box.row;simp only[g2,g5];cases t<;>rfl
     by_cases O:γ.I blk A
     .have:=h.sep c i blk k A hc0 l O;exact⟨by rw[hro];exact this.1,λg e n V=>this.2 (by rw[<-M];exact g) e n (by rw[<-adN];exact V)⟩
     .have h1:=F blk A C O;have h2:=(h.fresh c blk k (by rw[hc0];simp) l).2;omega }
def aaP{mem t v x val}(b:cI γ mem w v .val [val])(h:toD t v=aa x):∃c,bJ w γ.I t x c/\val=cY t c:=by
 unfold toD at h;split at h
 .rename_i u y;obtain⟨q,f⟩:=Ty.lQ h;subst q;subst f;exact eg.1 b
 .split at h
  .rename_i e;obtain rfl:=aI h;obtain rfl:val=_:=by simpa [cI] using b
   exact⟨[.slice af 0 0],.inl ⟨⟨af,rfl⟩,rfl⟩,rfl⟩
  .cases h
 .cases h
def LX{t v x}(h:toS t v=aa x):v=.data t x:=by
 unfold toS at h;split at h
 .obtain⟨q,b⟩:=Ty.lQ h
  grind
 .cases h
def Ec(hm:bF B γ σ.mem w):∀{ps A U vs s x u y},lT γ σ.mem w vs s->sa σ ps A U vs=aa (x,u,y) ->
  ∃e,P4 w γ.I ps A U x s e/\Refs γ σ.mem U u y e/\sq w γ.I U u e:=by
 intro ps;induction ps with
 | nil =>
   intro A U vs s x u y z h;cases A<;>first|(cases h;done)|skip
   cases U<;>first|(cases h;done)|skip
   cases vs with
   | cons v r=>cases h
   | nil =>
     obtain⟨rfl,q⟩:=eN (aI h);obtain⟨rfl,rfl⟩:=eN q;have hx:s=[]:=by have:=z.1;simpa using this
     exact⟨[],⟨rfl,rfl,hx,rfl⟩,⟨rfl,rfl⟩,rfl⟩
 | cons p ps W =>
   intro A U vs s x u y z h;cases p with
   | false =>
     cases A<;>first|(cases h;done)|skip
     cases vs with
     | nil=>cases h
     | cons v r =>
       simp only[sa] at h;split at h
       .rename_i x1 y1 u1 m D E;obtain⟨rfl,q⟩:=eN (aI h);obtain⟨rfl,rfl⟩:=eN q;obtain⟨F,c,rfl,G,H⟩:=z.cons;obtain⟨e,J,K,L⟩:=W H E;obtain⟨cs,c1,c2⟩:=aaP G D;exact⟨e,⟨cs,c,by rw[c2],c1,J⟩,K,L⟩
       .cases h
   | true =>
     cases U<;>first|(cases h;done)|skip
     cases vs with
     | nil=>cases h
     | cons v0 r =>
     cases v0<;>first|(cases h;done)|skip
     rename_i b M O;cases O with
     | cons _ _=>cases h
     | nil =>
     simp only[sa] at h;split at h
     case h_2=>cases h
     rename_i n Q;cases f:(Nat.beq n.aP M&&!n.buf&&!n.lk&&!n.ro&&Nat.beq n.tid 0) with
     | false=>rw[f] at h;cases h
     | true =>
       rw[f] at h;simp only[gw,DT] at f;obtain⟨⟨⟨⟨t,j⟩,R⟩,S⟩,T⟩:=f;split at h
       case h_2=>cases h
       rename_i x1 y1 u1 m D E;cases g:dc m b with
       | true=>rw[g] at h;cases h
       | false =>
         rw[g] at h;obtain⟨rfl,q⟩:=eN (aI h);obtain⟨rfl,rfl⟩:=eN q;obtain⟨F,c,rfl,G,H⟩:=z.cons;obtain⟨e,J,K,L⟩:=W H E;obtain⟨i,k,X,C⟩:=bk Q (gx t) G.2;have C:=vH C;simp only[ef] at C;have l:=LX D;have o:=hm.boxes b n Q;unfold eB at o;rw[j] at o;obtain⟨Y,cap,V,tid,fr,Z,a2,a3,adP,a4⟩:=o;rw[X] at Z;obtain⟨rfl,rfl⟩:=eN (aI Z);rw[l] at a4;exact⟨i::e,⟨i,c,e,by rw[C],rfl,J⟩,⟨b,m,i,e,n,k,rfl,rfl,(λhq=>by rw[Cc.2 hq] at g;cases g),Q,j,R,⟨S,(gx T)⟩,l,X,K⟩,i,e,rfl,⟨V,tid,fr,a2,a3,a4⟩,L⟩
end
end Go.Ge
