import Derived.Test.YtcebnmppipejfaaGreatDoorGeC
import Derived.Great.BuildSlice
import Derived.Laws.IdiomStrings
import Derived.Laws.BytesArg
import Derived.Laws.MakeOwn
import Derived.Deep.AppendSrc
set_option linter.unusedVariables false
set_option linter.unusedSimpArgs false
set_option linter.unusedSectionVars false
set_option linter.defProp false
open Option renaming some->ab,none->ah
namespace Go.Ge
open RowKit
def Xg(e:Gh)(c:Nat):Gh:={ e with I:=λb o=>e.I b o\/b=c }
def bM.aiP{B γ mem w}(h:bM B γ mem w) cs i :
  bM B (Xg γ w.heap.size) mem (w.alloc<|.cells cs i)/\Ext B γ mem w (Xg γ w.heap.size) mem (w.alloc<|.cells cs i):=by
 have hx:Ext B γ mem w (Xg γ w.heap.size) mem (w.alloc<|.cells cs i) :=
  { below:=(wE.refl _ _).alloc h.base _
    I:=λ_ _ x=>.inl x
    rM:=λc o x=>by
     rcases x with x|x
     .grind
     .exact .inr (.inl<|by rw[x];exact h.base)
    cells:=λc o x=>dM (db w _ c<|h.vz c o x)
    boxes:=λb g hb=>⟨g,hb,cp _,λ_=>⟨rfl,rfl,rfl⟩⟩ }
 refine⟨?_,hx⟩;have j:(w.alloc<|.cells cs i).heap.size=w.heap.size+1:=bb;exact
  { dv:=h.FJ hx
    base:=by rw[j];exact Nat.le_succ_of_le h.base
    boxes:=λb g hb=>(h.boxes b g hb).keep hx rfl λc k f=>db w _ c (h.fresh b c k (by rw[hb];simp) f).2
    inj:=h.inj
    fresh:=λb c k hb f=>by have:=h.fresh b c k hb f;exact⟨this.1,ai⟩
    vz:=λc e hi=>by
     rcases hi with hi|hi
     .have:=h.vz c e hi;omega
     .omega
    sep:=λb g c k e hb f hi=>by
     rcases hi with hi|hi
     .exact h.sep b g c k e hb f hi
     .have:=(h.fresh b c k (by rw[hb];simp) f).2;omega }
def LR off:∀l k b,off+k+l.length<=b.size ->
  (l.zipIdx k).foldl (λc x=>c.setIfInBounds (off+x.2) x.1) b=(bh b.toList (off+k) l).toArray
 | [],k,b,h=>by simp[bh]
 | v::r,k,b,h=>by
   simp only[List.zipIdx_cons,Zz];rw[LR off r (k+1) _<|by simp at h⊢;omega];have e:=list_seg_step b.toList _ v r ai;simpa [bh,Ft] using e
def CZ{place cells i off size v rest}(b:place i=ab (off,size))(e:v.cells.toList.length=size)
  (c:off+size<=cells.size):Instr.fill place cells ((i,v)::rest)=Instr.fill place (bh cells.toList off v.cells.toList).toArray rest:=by
 have f:(v.cells.size≠size||off+v.cells.size > cells.size)=false:=by
  grind
 simp only[Instr.fill,b];rw[<-Array.foldl_toList];have:=LR off v.cells.toList 0 cells ai
 grind
def Xh{w I u y es}(m:bY w I u y es):∀{t x f cs k o},
  bY w I t x cs->kk t k=ab o->Lt t x k u y=ab f->bY w I t f (bh cs o es)/\o+es.length<=cs.length:=by
 intro t;induction t with
 | pair a b v g =>
   intro x f cs k o h c e;obtain⟨i,n,rfl,j,p⟩:=h;cases k with
   | zero =>
     simp only[kk,Lf] at c;subst c;simp only[Lt] at e;split at e
     .rename_i F A;obtain⟨q,C⟩:=Ty.lX A;subst q;subst C;obtain rfl:=aQ e;have r:es.length=i.length:=by rw[m.length,j.length]
      refine⟨⟨es,n,?_,m,p⟩,by rw[jB];omega⟩;simp only[bh]
      grind
     .cases e
   | succ k =>
     simp only[kk] at c;cases l:kk b k with
     | none=>rw[l] at c;cases c
     | some s =>
       rw[l] at c;simp at c;simp only[Lt] at e;split at e
       .rename_i z D;obtain rfl:=aQ e;obtain⟨E,G⟩:=g p l D;have r:=j.length;refine⟨⟨i,bh n s es,?_,j,E⟩,by rw[jB];omega⟩;subst c;rw[<-r];simp only[bh];first
         | (rw[ac8,uw,Ft,<-yy,JK];simp[uw];done)
         | (rw[ZE s i.length];simp)
       .cases e
 | _=>intro x f cs k o h c;cases k<;>simp[kk] at c
def JW:∀{t k u},xP t k=ab u->∃o,kk t k=ab o:=by
 intro t;induction t with
 | pair a b e c =>
   intro k u h;cases k with
   | zero=>exact⟨0,rfl⟩
   | succ k =>
     obtain⟨o,f⟩:=c h;simp only[kk]
     grind
 | _=>intro k u h;cases k<;>cases h
section
variable {P:Program} {B:BA} {N:Nat} {γ:Gh} {σ aY:St} {a:Act} {w:World} {d:Option Nat} {cx:Ctx}
def Hu{place t}(m:∀k u o,xP t k=ab u->kk t k=ab o->place k=ab (o,u.size)) :
  ∀{parts x l cells σ aY γ},dJ B N γ σ a w->bY w γ.I t x cells.toList->gY σ t x parts=ab (l,aY) ->
   ∃b bJ,Instr.fill place cells (parts.map λp=>(p.1,a.eval p.2))=ab b/\dJ B N bJ aY a w/\Ext B γ σ.mem w bJ aY.mem w/\bY w bJ.I t l b.toList:=by
 intro parts;induction parts with
 | nil =>
   intro x l cells σ aY γ h n c;obtain⟨rfl,rfl⟩:=cd (aQ c);exact⟨cells,γ,rfl,h,Ext.refl _ _ _ _,n⟩
 | cons p r E =>
   obtain⟨k,o⟩:=p;intro x l cells σ aY γ h n c;simp only[gY] at c;split at c
   .rename_i u A;split at c
    .rename_i y b5 F;split at c
     .rename_i R q;obtain⟨G,H,s,C,v,J⟩:=nY h (h.dw o) F;obtain f:a.eval o=_:=by simpa using J
      have g:(a.eval o).cells.toList=C:=by rw[f];exact tH v
      obtain⟨i,e⟩:=JW A;obtain⟨K,D⟩:=Xh v (bY.mono s.I s.cells n) e q;have j:=v.length;obtain⟨b,z,L,M,O,Q⟩:=E (cells:=(bh cells.toList i C).toArray) H (by simpa using K) c;refine⟨b,z,?_,M,s.trans O,Q⟩;simp;rw[CZ (m k u i A e) (by rw[g];exact j)<|by rw[j] at D;simpa using D,g];exact L
     .cases c
    .cases c
   .cases c
def A5{n}{e:Ty}{place}(t:∀k,place k=ab (k*e.size,e.size)) :
  ∀{parts} {l s:List e.den} {cells σ aY γ},dJ B N γ σ a w->bY w γ.I (.arr n e) l cells.toList->fP σ e l parts=ab (s,aY) ->
   ∃b bJ,Instr.fill place cells (parts.map λp=>(p.1,a.eval p.2))=ab b/\dJ B N bJ aY a w/\Ext B γ σ.mem w bJ aY.mem w/\bY w bJ.I (.arr n e) s b.toList:=by
 intro parts;induction parts with
 | nil =>
   intro l s cells σ aY γ h u c;obtain⟨rfl,rfl⟩:=cd (aQ c);exact⟨cells,γ,rfl,h,Ext.refl _ _ _ _,u⟩
 | cons p r J =>
   obtain⟨k,o⟩:=p;intro l s cells σ aY γ h u c;simp only[fP] at c;split at c
   .rename_i y b5 K;cases f:Nat.blt k l.length with
    | false=>rw[f] at c;cases c
    | true =>
      rw[f] at c;have F:k<l.length:=by simpa using f
      obtain⟨v,L,x,z,A,M⟩:=nY h (h.dw o) K;obtain j:a.eval o=_:=by simpa using M
      have m:(a.eval o).cells.toList=z:=by rw[j];exact tH A
      obtain⟨G,C,O⟩:=bY.mono x.I x.cells u;have D:l.length=n:=G;have g:=A.length;have H:(k+1)*e.size<=n*e.size:=hS _ ai;rw[JL] at H;have i:k*e.size+z.length<=cells.toList.length:=by rw[g,C];exact H
      have q:bY w v.I (.arr n e) _ _ :=
       ⟨(@List.length_set _ l _ _).trans G,by rw[bT i];exact C,LI D (by rw[C];apply cp) O ai A⟩
      obtain⟨b,E,Q,R,S,T⟩:=J (cells:=(bh cells.toList _ z).toArray) L (by simpa using q) c;refine⟨b,E,?_,R,x.trans S,T⟩;simp;rw[CZ (t k) (by rw[m];exact g)<|by rw[g] at i;simpa using i,m];exact Q
   .cases c
def ry.places{t}:∀{off e},ry P t off e->∃c,e.mapM (λf=>(P.info? f.type).map λi=>(f.offset,i.size))=ab c /\
  ∀k u o,xP t k=ab u->kk t k=ab o->c[k]?=ab (off+o,u.size):=by
 induction t with
 | pair a b m l =>
   intro off e h;obtain⟨f,r,rfl,y,A,n,C,p⟩:=h.cons;obtain⟨q,s,D⟩:=l p;obtain⟨i,z,v,E,_⟩:=n.info;refine⟨(f.offset,i.size)::q,by simp[v,s],λk u o g j=>?_⟩;cases k with
   | zero =>
     simp only[xP,kk] at g j
     grind
   | succ k =>
     simp only[xP,kk] at g j;cases x:kk b k with
     | none=>rw[x] at j;cases j
     | some F =>
       grind
 | unit =>
   intro off e h;cases e with
   | nil=>exact⟨[],rfl,λk u o g=>by cases k<;>cases g⟩
   | cons f r=>simp[ry,e7] at h
 | _=>intro off e h;cases e<;>simp[ry,e7] at h
def I0{mem}:∀{c v},tG c=ab v->cM γ mem w v .cells (LF c):=by
 intro c;induction c with
 | nil=>intro v h;obtain rfl:=aQ h;rfl
 | cons f r g =>
   intro v h;cases f with
   | dat t =>
     simp only[tG] at h;split at h
     .rename_i u b;obtain rfl:=aQ h;exact⟨_,_,rfl,oK _ _ t,g b⟩
     .cases h
   | buf e i =>
     simp only[tG] at h;split at h
     .rename_i u b;obtain rfl:=aQ h;exact⟨[.slice ah 0 0],_,rfl,rfl,g b⟩
     .cases h
   | one =>
     simp only[tG] at h;split at h
     .rename_i u b;obtain rfl:=aQ h;exact⟨[.pointer ah],_,rfl,rfl,g b⟩
     .cases h
   | self=>cases h
def BX{place q}(s:∀k o f,zW q k=ab o->q[k]?=ab f->place k=ab (o,f.size))(h:dJ B N γ σ a w) :
  ∀{parts v m cells},cM γ σ.mem w v .cells cells.toList->rD σ q v parts=ab m ->
   ∃b,Instr.fill place cells (parts.map λp=>(p.1,a.eval p.2))=ab b/\cM γ σ.mem w m .cells b.toList:=by
 intro parts;induction parts with
 | nil=>intro v m cells n c;obtain rfl:=aQ c;exact⟨cells,rfl,n⟩
 | cons p r G =>
   obtain⟨k,x⟩:=p;intro v m cells n c;simp only[rD] at c;split at c
   case h_2=>cases c
   rename_i o t O H f E I A;cases g:Nat.beq o H&&Nat.beq t.size f.size with
   | false=>rw[g] at c;cases c
   | true =>
     rw[g] at c;simp only[gy] at g;obtain rfl:=iT g.1;have i:=iT g.2;split at c
     case h_2=>cases c
     rename_i y j;split at c
     case h_2=>cases c
     rename_i Q C;have l:=KJ j ((h.dw x).oL (λu e=>by rw[e] at j;cases j) λe=>by rw[e] at j;cases j);obtain⟨J,_⟩:=Ht n E;have D:o+t.size<=cells.toList.length:=J;have F:=l.length;obtain⟨b,K,L⟩:=G (cells:=(bh cells.toList o (a.eval x).cells.toList).toArray) (by simpa using(LH n E (λz M=>by obtain rfl:=aQ M;exact l) C F)) c;refine⟨b,?_,L⟩;simp;rw[CZ (s k o f I A) (by rw[F];exact i)<|by rw[<-i];simpa using D];exact K
def JX(n:fS P cx){t:TypeId}{e l p q}{parts:Array (Nat×Operand)}(h:dJ B N γ σ a w)(r:∀k,d=ab k->k<N)(s:find cx.sG t=ab e)
  (g:tG e=ab l) (u:rD σ e l parts.toList=ab (.mix p q)) :
  oM P B N γ σ a w d (Instr.build t<|parts.map λ(i,x)=>(i,a.eval x)) (σ.bD d<|.mix p q):=by
 have m:=n.sG _ _ s;simp only[LG,gy] at m;obtain⟨j,v⟩:=m;obtain⟨i,z,J,K,L,y⟩:=kn v;split at j
 case h_2=>cases j
 obtain⟨M,O,A⟩:=FL j;obtain⟨b,Q,C,D,E,F,G⟩:=BX (λk o f H I=>by have:=A k o f H I;simpa using this) h
  (by rw[y];exact I0 g) u
 have c:(Instr.build t<|parts.map λ(i,x)=>(i,a.eval x)).run P w=.ok (.agg b) w:=by
  refine run_build w t _ _ ?_;unfold Program.built;simp_all
 exact bV h r c ⟨C,D,by rw[<-E],F,G⟩
def Hv(n:fS P cx){t:TypeId}{e l u}{parts:Array (Nat×Operand)}(h:dJ B N γ σ a w)(p:∀k,d=ab k->k<N)(q:find cx.sG t=ab e)
  (g:tG e=ab l) (r:rD σ e l parts.toList=ab (.data .unit u)) :
  oM P B N γ σ a w d (Instr.build t<|parts.map λ(i,x)=>(i,a.eval x)) (σ.bD d<|.data .unit ()):=by
 have m:=n.sG _ _ q;simp only[LG,gy] at m;obtain⟨j,s⟩:=m;obtain⟨i,z,E,F,G,v⟩:=kn s;split at j
 case h_2=>cases j
 obtain⟨H,I,y⟩:=FL j;obtain⟨b,J,A⟩:=BX (λk o f C D=>by have:=y k o f C D;simpa using this) h
  (by rw[v];exact I0 g) r
 have c:(Instr.build t<|parts.map λ(i,x)=>(i,a.eval x)).run P w=.ok (.agg b) w:=by
  refine run_build w t _ _ ?_;unfold Program.built;simp_all
 exact bV h p c ⟨[],rfl,by rw[show b=#[] from Array.ext' A];rfl⟩
def Ey(f:fS P cx){t:TypeId}{u v}{parts:Array (Nat×Operand)}{x}(h:dJ B N γ σ a w)(g:∀k,d=ab k->k<N)(j:find cx.T t=ab (.pair u v))
  (l:gY σ (.pair u v) (Ty.pair u v).zero parts.toList=ab (x,aY)) :
  oM P B N γ σ a w d (Instr.build t<|parts.map λ(i,x)=>(i,a.eval x)) (aY.bD d<|.data (.pair u v) x):=by
 have e:=f.T _ _ j;obtain⟨C,D,m,_⟩:=e.pair;obtain⟨E,F,n⟩:=m.places;obtain⟨i,z,G,H,J,p⟩:=e.info;obtain⟨b,bJ,K,q,r,s⟩:=Hu (λk u o y A=>by have:=n k u o y A;simpa using this) h
  (by rw[p];exact oK w γ.I _) l
 have c:(Instr.build t<|parts.map λ(i,x)=>(i,a.eval x)).run P w=.ok (.agg b) w:=by
  refine run_build w t _ _ ?_;unfold Program.built;simp_all
 exact⟨_,_,bJ,c,q.wN g ⟨_,s,rfl⟩,by cases d<;>exact r⟩
def FU(j:fS P cx){t:TypeId}{n e}{parts:Array (Nat×Operand)}{l}(h:dJ B N γ σ a w)(m:∀k,d=ab k->k<N)(o:find cx.T t=ab (.arr n e))
  (p:fP σ e (List.replicate n e.zero) parts.toList=ab (l,aY)) :
  oM P B N γ σ a w d (Instr.build t<|parts.map λ(i,x)=>(i,a.eval x)) (aY.bD d<|.data (.arr n e) l):=by
 have f:=j.T _ _ o;obtain⟨q,C,r,D⟩:=f.arr;obtain⟨g,E,F,s,G,H⟩:=r.info;obtain⟨i,z,J,K,L,u⟩:=f.info;obtain⟨b,bJ,M,v,y,A⟩:=A5 (place:=λk=>ab (k*g.size,g.size)) (λk=>by rw[s]) h
  (by rw[u];exact oK w γ.I _) p
 have c:(Instr.build t<|parts.map λ(i,x)=>(i,a.eval x)).run P w=.ok (.agg b) w:=by
  refine run_build w t _ _ ?_;unfold Program.built;simp_all
 exact⟨_,_,bJ,c,v.wN m ⟨_,A,rfl⟩,by cases d<;>exact y⟩
def wQ{e}{z:Value}(h:z.cells.toList=gA e)(f:0<e.size) n:(madeCells z.cells<|n*e.size).toList=gA (.arr n e):=by
 have i:z.cells.size=e.size:=by rw[<-eA e,<-h];simp
 apply Ld;intro j;have hlen:(gA<|.arr n e).length=n*e.size:=by rw[eA];rfl
 rcases vM j (n*e.size) with b|b
 .have k:(madeCells z.cells<|n*e.size).toList[j]?=ab (z.cells[j % z.cells.size]!):=by simp[madeCells,b]
  have g:=fu (gA e) n _ (by rw[Zn f];exact b);rw[eA] at g;have c:j / e.size*e.size+j % e.size=j:=by rw[T2];exact TZ j e.size
  have l:(gA<|.arr n e)[j]?=(gA e)[j % e.size]?:=by
   conv=>rhs;rw[<-g]
   rw[jP,aX (A1 j f),sY,c];rfl
  grind
 .rw[Lb<|by simp[madeCells];omega,Lb ai]
def RF{w I}{e:Ty}{n}{l:List e.den}{cells t blk k}(h:bY w I (.arr n e) l cells.toList)(m:w.heap[blk]?=ab (.cells cells t k))
  (p:∀o,I blk o) (q:n<=maxLen):bY w I (.slice e) l [.slice (ab ⟨blk,0,ah⟩) n n]:=by
 obtain⟨r,v,s⟩:=h;have b:l.length=n:=r;refine .inr ⟨blk,0,n,by rw[<-b],by rw[<-b];exact cp _,q,λi x u=>?_⟩;have f:l[i]?=ab x:=u;have g:=s i x f;refine⟨_,g.length,λj c y=>⟨?_,p _⟩,g⟩;rw[cell_of_heap m]
 grind
def BZ(v:fS P cx){t:TypeId}{n e}{parts:Array (Nat×Operand)}{l}(h:dJ B N γ σ a w)(y:find cx.T t=ab (.slice e))
  (J:n*e.size<=65536) (z:fP σ e (List.replicate n e.zero) parts.toList=ab (l,aY)) :
  ∃b bJ c,0<e.size/\dJ B N bJ aY a w/\Ext B γ σ.mem w bJ aY.mem w/\bY w bJ.I (.arr n e) l b.toList /\
   (Instr.buildSlice t n<|parts.map λ(i,x)=>(i,a.eval x)).run P w=.ok (.slice (ab ⟨w.heap.size,0,ah⟩) n n) (w.alloc<|.cells b c):=by
 obtain⟨c,q,A,K,r⟩:=(v.T _ _ y).slice;obtain⟨g,j,s,m,C,D⟩:=A.info;obtain⟨b,bJ,u,E,F,G⟩:=A5 (place:=λk=>ab (k*g.size,g.size)) (λk=>by rw[m]) h
  (by rw[wQ D r];exact oK w γ.I _) z
 refine⟨b,bJ,c,r,E,F,G,?_⟩;have f:Instr.fill (λi=>ab (i*g.size,g.size)) (madeCells j.cells<|n*g.size) (parts.map λ(i,x)=>(i,a.eval x)).toList=ab b:=by rw[m] at u⊢;simpa using u
 by_cases o:n*g.size=0
 .have p:madeCells j.cells (n*g.size)=#[]:=by rw[o];simp[madeCells]
  rw[p] at f;simp at f;simp[Instr.buildSlice,run_underlying q,Go.sizeOf,typeInfo,s,o];have H:(Array.map (λx=>(default:Value))<|Array.range 0)=#[]:=by simp[Array.range]
  rw[H,f];rfl
 .exact run_buildSlice w t c n _ b g j q s C (by rw[m];omega) o f
def Hw(p:fS P cx){t:TypeId}{n e}{parts:Array (Nat×Operand)}{l}(h:dJ B N γ σ a w)(q:∀k,d=ab k->k<N)(r:find cx.T t=ab (.slice e))
  (g:Nat.ble (n*e.size) 65536=true) (s:fP σ e (List.replicate n e.zero) parts.toList=ab (l,aY)) :
  oM P B N γ σ a w d (Instr.buildSlice t n<|parts.map λ(i,x)=>(i,a.eval x)) (aY.bD d<|.data (.slice e) l):=by
 have g:=JH g;obtain⟨b,bJ,j,u,m,v,y,c⟩:=BZ p h r g s;obtain⟨m1,f⟩:=m.ok.aiP b j;refine⟨_,_,_,c,m.bD f m1 q ⟨[.slice _ n n],?_,rfl⟩,by cases d<;>exact v.trans f⟩;refine RF (bY.mono f.I f.cells y) (heap_alloc_new w _) (λo=>.inr rfl) ?_;have:n*1<=n*e.size:=Nat.mul_le_mul_left _ u;have:65536<=maxLen:=aK;omega
def LS(u:fS P cx){t:TypeId}{n e}{parts:Array (Nat×Operand)}{l nb k b5}(h:dJ B N γ σ a w)(v:k<N)(y:find cx.T t=ab (.slice e))
  (j:Nat.ble (n*e.size) 65536=true) (z:fP σ e (List.replicate n e.zero) parts.toList=ab (l,b5))
  (A:(b5.bF (nb+k) (.data (.slice e) l) 0 true λb σ=>.ret (σ.put k<|.whole (nb+k) b)).run=ab aY) :
  oM P B N γ σ a w (ab k) (Instr.buildSlice t n<|parts.map λ(i,x)=>(i,a.eval x)) aY:=by
 have j:=JH j;obtain⟨g,bJ,C,q,m,D,E,c⟩:=BZ u h y j z;obtain⟨b,f,o⟩:=ev A;obtain rfl:=aQ o;obtain⟨r,F,G⟩:=E;have p:n<=maxLen:=by
  have:n*1<=n*e.size:=Nat.mul_le_mul_left _ q;have:65536<=maxLen:=aK;omega
 obtain⟨H,s⟩:=m.ok.LJ (w':=w.alloc _) f q
  ((wE.refl _ _).alloc m.ok.base _) (db w _) (heap_alloc_new w _) (wO _ _) (.inl rfl) (DI r) p (by simpa using F) G
 refine⟨_,_,_,c,m.step s H v ?_,D.trans s⟩;exact⟨⟨_,rfl,rfl⟩,gO (bI _ _) rfl ⟨e,n,rfl,by rw[<-r];rfl,.inr ⟨w.heap.size,n,by simp[bU],rfl⟩⟩⟩
def RG{place}(z:∀k,place k=ab (k,1))(h:dJ B N γ σ a w) :
  ∀{parts k v cells},cells.size=k+parts.length->BO σ k parts=ab v ->
   ∃g,Instr.fill place cells (parts.map λp=>(p.1,a.eval p.2))=ab (cells.toList.take k++g).toArray/\cM γ σ.mem w v .cells g:=by
 intro parts;induction parts with
 | nil =>
   intro k v cells A l;obtain rfl:=aQ l;refine⟨[],?_,rfl⟩;have:cells.toList.take k=cells.toList:=Hi (by simp[A]);rw[this];simp[Instr.fill]
 | cons p r F =>
   obtain⟨j,x⟩:=p;intro k v cells A l;simp only[BO] at l;cases C:Nat.beq j k with
   | false=>rw[C] at l;cases l
   | true =>
     rw[C] at l;obtain rfl:=iT C;simp at A;have key:∀u o c,(∀t,u≠.BF t)->u≠.undef->dw σ x=u->BO σ (j+1) r=ab o->v=.mix u o->(a.eval x).cells.toList=[c] ->
       ∃g,Instr.fill place cells (((j,x)::r).map λp=>(p.1,a.eval p.2))=ab (cells.toList.take j++g).toArray/\cM γ σ.mem w v .cells g:=by
      intro u o c G H n i D m;have hx:=h.dw x;rw[n] at hx;have s:=hx.oL G (λe=>absurd e H);have hlen:(bh cells.toList j [c]).length=cells.toList.length:=bT jA;obtain⟨g,M,I⟩:=F (cells:=(bh cells.toList j [c]).toArray) (by simp only[Lg,hlen,TW];omega) i;have O:(bh cells.toList j [c]).take (j+1)=cells.toList.take j++[c]:=by
       have:(cells.toList.take j).length=j:=by rw[kC,TW];omega
       simp only[bh]
       grind
      refine⟨c::g,?_,?_⟩
      .simp;rw[CZ (z j) (by rw[m];rfl) ai]
       grind
      .rw[D];exact⟨[c],g,rfl,by rw[m] at s;exact s,I⟩
     split at l
     .rename_i o n i;obtain rfl:=aQ l;have hx:=h.dw x;rw[n] at hx;obtain hx:a.eval x=_:=by simpa [cM] using hx
      exact key .uy o _ Fm cl n i rfl (by rw[hx];rfl)
     .rename_i b J q o n i;obtain rfl:=aQ l;have hx:=h.dw x;rw[n] at hx;obtain⟨⟨y,K,E⟩,_⟩:=hx;obtain rfl:a.eval x=y:=by simpa using K
      refine key _ o (a.eval x) Fm cl n i rfl ?_;generalize a.eval x=y at E⊢;cases y<;>first|rfl|(simp[Value.oneCell'] at E)
     .rename_i f c o n i;obtain rfl:=aQ l;have hx:=h.dw x;rw[n] at hx;obtain⟨L,hx,_,_⟩:=hx;obtain hx:a.eval x=_:=by simpa using hx
      exact key _ o _ Fm cl n i rfl (by rw[hx];rfl)
     .cases l
def OB(q:fS P cx){t nb n}{parts:Array (Nat×Operand)}(h:dJ B N γ σ a w)(C:∀k,d=ab k->k<N)
  (g:(CV cx nb d t n parts.toList σ).run=ab aY):oM P B N γ σ a w d (Instr.buildSlice t n<|parts.map λ(i,x)=>(i,a.eval x)) aY:=by
 unfold CV at g;split at g
 case h_2=>cases g
 rename_i k e v D E;obtain⟨r,m⟩:=aI g;simp only[gy] at r;obtain⟨⟨F,G⟩,o⟩:=r;obtain rfl:=iT F;have H:0<parts.toList.length:=by simpa using G
 have s:parts.toList.length<=64:=JH o;obtain⟨I,J⟩:=Aa q D;obtain⟨_,K,z,L,_⟩:=q.rv _ J;obtain⟨b,u,l⟩:∃b,P.info? e=ab b/\b.size=1:=by
  have:=K w;cases hi:P.info? e with
  | none=>simp[Go.sizeOf,typeInfo,hi] at this
  | some b=>simp[Go.sizeOf,typeInfo,hi] at this;exact⟨b,rfl,this⟩
 obtain⟨c,M⟩:∃c,b.zero=ab c:=by
  have:=L w;cases hi:b.zero with
  | none=>simp[zeroValue,typeInfo,u,hi] at this
  | some c=>exact⟨c,rfl⟩
 obtain⟨O,f,p⟩:=ev m;obtain rfl:=aQ p;obtain⟨y,Q,R⟩:=RG (place:=λi=>ab (i*b.size,b.size)) (λj=>by rw[l];simp) h (cells:=(Array.range<|parts.toList.length*b.size).map (c.cells[· % c.cells.size]!)) (by simp[l]) E;obtain⟨m1,A⟩:=h.ok.newVar f e (.inl rfl) (by simpa using R);refine⟨_,_,_,(run_buildSlice w t e parts.toList.length _ _ b c I u M (by rw[l];omega) (by rw[l];omega)<|by rw[ads];exact Q),h.step A m1 (C k rfl) ?_,A⟩;refine⟨⟨_,rfl,rfl⟩,gO (bI _ _) rfl ⟨bb,w.heap.size,0,by simp[bU],ai,ai,ai,_,_,rfl,bb,.inr ?_⟩⟩;simp[eC]
def Hy(n:fS P cx){t:TypeId}{e nb k}(h:dJ B N γ σ a w)(o:k<N)(p:find cx.T t=ab (.slice e))
  (q:(σ.bF (nb+k) (.data (.slice e) ([]:List e.den)) 0 true λb σ=>.ret (σ.put k<|.whole (nb+k) b)).run=ab aY) :
  oM P B N γ σ a w (ab k) (Instr.buildSlice t 0 #[]) aY:=by
 obtain⟨c,r,s,A,u⟩:=(n.T _ _ p).slice;obtain⟨C,D,v,E,F,G⟩:=s.info;obtain⟨b,f,j⟩:=ev q;obtain rfl:=aQ j;have g:(Instr.buildSlice t 0 #[]).run P w=.ok (.slice (ab ⟨w.heap.size,0,ah⟩) 0 0) (w.alloc<|.cells #[] c):=by
  simp[Instr.buildSlice,run_underlying r,Go.sizeOf,typeInfo,v,newRow,Instr.fill]
  grind
 obtain⟨x,m⟩:=h.ok.LJ (w':=w.alloc (.cells #[] c)) (l:=([])) f u
  ((wE.refl _ _).alloc h.ok.base _) (db w _) (heap_alloc_new w _) (wO _ _) (.inl rfl) (cp _) (qK _) bb (λi z y=>by cases y)
 refine⟨_,_,_,g,h.step m x o ?_,m⟩;exact⟨⟨_,rfl,rfl⟩,gO (bI _ _) rfl ⟨e,0,rfl,rfl,.inr ⟨w.heap.size,0,by simp[bU],rfl⟩⟩⟩
end
end Go.Ge
namespace Go.Ge
open RowKit
section
variable {P:Program} {B:BA} {N:Nat} {γ:Gh} {σ aY:St} {a:Act} {w w':World} {d:Option Nat} {cx:Ctx}
def Ez:4294967296<=maxLen:=aK
def FV{n:Nat}(h:fits n=true):n<=4294967296:=by simp[fits] at h;omega
def B0{b e}(c:Hr P b=true)(f:P.info? b=ab e):e.bytes<=32768:=by
 unfold Hr at c;rw[f] at c;exact JH c
def zl{mem b cap blk bx e n}(c:bx.buf=true)(f:bx.row=ab (e,n)) :
  cM (bU γ b<|some (blk,cap)) (dt mem b bx) w' (.whole b bx.aU) .val [.slice (ab ⟨blk,0,ah⟩) n cap] :=
 ⟨⟨_,rfl,rfl⟩,gO (bI _ _) rfl ⟨e,n,c,f,.inr ⟨blk,cap,by simp[bU],rfl⟩⟩⟩
def JY(I:fS P cx){t:TypeId}{nb k e x y A C}{l c:Int}(h:dJ B N γ σ a w)(J:k<N)(K:find cx.T t=ab (.slice e))
  (L:dw σ x=.data (.int A) l) (M:dw σ y=.data (.int C) c) (u:inside 0 l c=true) (O:fits c=true)
  (Q:(σ.bF (nb+k) (.data (.slice e)<|kj l e.zero) 0 true λaU σ=>.ret (σ.put k<|.whole (nb+k) aU)).run=ab aY) :
  oM P B N γ σ a w (ab k) (Instr.makeSlice t (a.eval x)<|a.eval y) aY:=by
 obtain⟨aU,p,v⟩:=ev Q;obtain rfl:=aQ v;obtain⟨_,R,S⟩:=jT u;have D:c<=4294967296:=by simpa [fits] using O
 have q:=h.dw x;have r:=h.dw y;rw[L] at q;rw[M] at r;obtain⟨U,_⟩:=vb q;obtain⟨V,_⟩:=vb r;obtain⟨m,W,X,Y,E⟩:=(I.T _ _ K).slice;obtain⟨o,s,F,G,Z,e4⟩:=X.info;have hb:=B0 Y F;have f:o.bytes*c<=281474976710656:=by
  have:o.bytes*c<=32768*c:=Int.mul_le_mul_of_nonneg_right ai ai;omega
 have g:(madeCells s.cells<|c.toNat*o.size).toList=gA (.arr c.toNat e):=by rw[G];exact wQ e4 E _
 have hlen:(kj l e.zero).length=l.toNat:=by simp[kj]
 obtain⟨m1,H⟩:=h.ok.LJ (w':=w.alloc (.cells (madeCells s.cells<|c.toNat*o.size) m)) (l:=kj l e.zero) (cap:=c.toNat) p E
  ((wE.refl _ _).alloc h.ok.base _) (db w _) (heap_alloc_new w _) (wO _ _) (.inl rfl) ai (by have:=Ez;omega)
  (by rw[G];apply size_madeCells) (λi z hz=>by
   rw[g];have j:(List.replicate l.toNat e.zero)[i]?=ab z:=hz;rw[Zk] at j;split at j
   .rename_i hi;obtain rfl:e.zero=z:=by simpa using j
    have:=fu (gA e) c.toNat i ai;rw[eA] at this;rw[show gA _=(List.replicate c.toNat _).flatten from rfl,this];apply oK
   .cases j)
 refine⟨_,_,_,by rw[U,V];exact(run_make w t m o s W F Z A C l c R S f ai),h.step H m1 J ?_,H⟩;have:=zl (γ:=γ) (w':=w.alloc (.cells (madeCells s.cells<|c.toNat*o.size) m)) (mem:=σ.mem) (b:=nb+k) (cap:=c.toNat) (blk:=w.heap.size)
  (bx:={ val:=.data (.slice e) _,tid:=0,buf:=true,ro:=false,lk:=false,aU }) (n:=l.toNat) rfl (by rw[<-hlen];rfl)
 exact this
def RH(b:UInt8):IntKind.u8.min<=((b.toNat:Int))/\((b.toNat:Int))<=IntKind.u8.max:=u8_in b
def aa4{I}{l:List Int}{v src dst e}(h:BV w I (.int .u8) l v)(j:P.underlying src=ab (.slice e))(k:P.underlying e=ab (.int .u8))(m:P.underlying dst=ab .string) :
  (convert src dst v).run P w=.ok (.string ⟨(bu l).toArray⟩) w/\l.length<=maxLen:=by
 rcases h with ⟨rfl,g,b,n,q,o⟩|⟨c,f,b,n,q,o,r⟩
 .rcases o with rfl|⟨c,f,rfl⟩
  .rw[n];refine⟨?_,qK _⟩;cases g with
   | none=>exact run_convert_bytes_nil w src e j k 0 0 dst m
   | some u =>
     rw[run_convert_bytes_string w src dst e _ _ _ j k m];simp[ bu];rfl
  .rw[n];refine⟨?_,qK _⟩;exact run_convert_bytes_arg w src e j k c f 0 b [] rfl (λi p=>ai) dst m
 .rw[n];refine⟨?_,iU q o⟩;refine run_convert_bytes_arg w src e j k c f l.length b l rfl (λi p=>?_) dst m;obtain⟨x,y,s,t⟩:=r i l[i] (ik p);obtain⟨rfl,_⟩:=t;have:=s 0 _ rfl;simp only[Ty.size,Ln,Fv] at this;rw[this];simp[ ik p]
def Hz l:(bu l).length=l.length:=by simp[bu]
def bytesRow_at{s:ay}{cap i b}(c:s[i]?=ab b):((bytesRow ⟨s.toArray⟩ cap).toList.drop<|i*1).take 1=[.int .u8 (b.toNat:Int)]:=by
 apply Ld;intro j;rw[jP];split
 .rename_i e;obtain rfl:j=0:=ai;rw[sY];simp only[bytesRow,Zq];rw[WZ<|by simpa using((hR.1 c).1)];simp[c]
 .rename_i e;rw[Lb jA]
def OC s {cap} (h:s.size<=cap):(bytesRow s cap).size=cap:=by
 simp only[bytesRow,Array.size_append,Array.size_map,Array.size_replicate];have:s.data.size=s.size:=rfl;omega
def LU(y:fS P cx){nb k}{j l:TypeId}{x}{s:ay}(h:dJ B N γ σ a w)(D:k<N)(E:find cx.T j=ab .str)(q:find cx.T l=ab (.slice<|.int .u8))
  (F:dw σ x=.data .str s) (G:(σ.bF (nb+k) (.data (.slice<|.int .u8)<|aC s) 0 true λaU σ=>.ret (σ.put k<|.whole (nb+k) aU)).run=ab aY) :
  oM P B N γ σ a w (ab k) (convert j l<|a.eval x) aY:=by
 have hv:=h.dw x;rw[F] at hv;obtain⟨H,I⟩:=yD hv;obtain⟨aU,m,r⟩:=ev G;obtain rfl:=aQ r;obtain⟨c,J,K,O,Q⟩:=(y.T _ _ q).slice;have g:=run_bytes_of_string w j l c ⟨s.toArray⟩ (y.T _ _ E).str J K.int;have t:(⟨s.toArray⟩:ByteArray).size=s.length:=by simp[ByteArray.size]
 rw[t] at g;have p:=grownCap_ge w s.length 0 c;have u:=grownCap_le_maxLen w s.length 0 c I;have hlen:(aC s).length=s.length:=by simp[aC]
 generalize A:grownCap w s.length 0 c=cap at *;obtain⟨m1,C⟩:=h.ok.LJ (e:=.int .u8)
  (w':=w.drew.alloc (.cells (bytesRow ⟨s.toArray⟩ cap) c ((bytesRow ⟨s.toArray⟩ cap).size,(bytesRow ⟨s.toArray⟩ cap).size+1)))
  m aK ((wE.refl B w).drew.alloc h.ok.base _) (db w.drew _) (heap_alloc_new w.drew _) ⟨λo R S=>ai,λL=>by cases L⟩ (.inl rfl) (iU (DI hlen) p) u
  (by rw[(OC ⟨s.toArray⟩ p)];exact(Ln _).symm) (λi z M=>by
   have f:(aC s)[i]?=ab z:=M;simp only[aC,Ep] at f;cases v:s[i]? with
   | none=>rw[v] at f;cases f
   | some b =>
     rw[v] at f;obtain rfl:_=z:=aQ f;exact⟨bytesRow_at v,RH b⟩)
 refine⟨_,_,_,by rw[H];exact g,h.step C m1 D ?_,C⟩;have:=zl (γ:=γ) (mem:=σ.mem) (b:=nb+k) (cap:=cap) (blk:=w.heap.size)
  (bx:={ val:=.data (.slice<|.int .u8) _,tid:=0,buf:=true,ro:=false,lk:=false,aU }) (n:=s.length)
  (w':=w.drew.alloc (.cells (bytesRow ⟨s.toArray⟩ cap) c ((bytesRow ⟨s.toArray⟩ cap).size,(bytesRow ⟨s.toArray⟩ cap).size+1))) rfl (by rw[<-hlen];rfl)
 exact this
def FW(e:fS P cx){nb src dst x}(h:dJ B N γ σ a w)(i:∀k,d=ab k->k<N)(c:(iD cx nb d src dst (dw σ x) σ).run=ab aY) :
  oM P B N γ σ a w d (convert src dst<|a.eval x) aY:=by
 have hv:=h.dw x;unfold iD at c;split at c
 .rename_i v k y n f b g;rw[g] at hv;obtain⟨j,_⟩:=vb hv;obtain rfl:=aQ c;refine bV h i (x:=.int k (k.wrap n)) ?_ (mkInt<|fT _ _);rw[j];simp[convert,run_underlying (e.T _ _ f).int,run_underlying (e.T _ _ b).int,Conv.intToInt]
 .rename_i s f b g;rw[g] at hv;obtain rfl:=aQ c;obtain⟨j,o⟩:=yD hv;refine bV h i ?_ hv;rw[j];simp[convert,run_underlying (e.T _ _ f).str,run_underlying (e.T _ _ b).str]
 .rename_i s f b g;split at c
  .rename_i k;obtain⟨z,m⟩:=cO c;exact LU e h (i k rfl) f b g m
  .exact absurd c cl
 .rename_i A f b;split at c
  .rename_i l o;obtain rfl:=aQ c;obtain⟨p,q,r,C,D⟩:=(e.T _ _ f).slice;obtain⟨t,u⟩:=aa4 (s9 h.ok hv o) q r.int (e.T _ _ b).str;refine bV h i t ⟨_,⟨rfl,?_⟩,rfl⟩;exact iU (DI<|Hz l) u
  .exact absurd c cl
 .exact absurd c cl
end
end Go.Ge
namespace Go.Ge
open RowKit
section
variable {P:Program} {B:BA} {N:Nat} {γ:Gh} {σ aY:St} {a:Act} {w w':World} {d:Option Nat} {cx:Ctx}
def fx(w:World)(I:Nat->Nat->Prop)(e:Ty)(l:List e.den)(b:List Value):Prop :=
 ∀(i:Nat) (x:e.den),l[i]?=ab x->bY w I e x ((b.drop<|i*e.size).take e.size)
def oN{c:Type}{a b:List c}{i s}(h:(i+1)*s<=a.length):((a++b).drop<|i*s).take s=(a.drop<|i*s).take s:=by
 grind
def fx.append{I e l m c1 c2 rest}(g:fx w I e l c1)(h:fx w I e m c2)(c:c1.length=l.length*e.size)(j:c2.length=m.length*e.size) :
  fx w I e (l++m) (c1++c2++rest):=by
 intro i x b;rw[Rp] at b;split at b
 .rename_i f;have k:(i+1)*e.size<=l.length*e.size:=hS _ f;rw[uw,oN ai];exact g i x b
 .rename_i f;have k:(i-l.length+1)*e.size<=m.length*e.size:=hS _ ((hR.1 b).1);have n:i*e.size=c1.length+(i-l.length)*e.size:=by rw[c,<-iV];congr 1;omega
  rw[uw,n,<-yy,JK,oN ai];exact h _ x b
def fx.front{I e l cs n}(h:fx w I e l cs)(c:l.length*e.size<=n)(f:n<=cs.length):fx w I e l (cs.take n):=by
 intro i x b;have g:(i+1)*e.size<=l.length*e.size:=hS _ ((hR.1 b).1);have:(((cs.take n)++cs.drop n).drop<|i*e.size).take e.size=((cs.take n).drop _).take e.size:=oN (by rw[kC];omega);rw[<-this,BI];exact h i x b
def agL{I e m v tx t0 o}(p:(∃o,P.underlying tx=ab (.slice o))\/P.underlying tx=ab .string)(l:P.underlying t0=ab (.slice o))(h:BV w I e m v) :
  ∃b,Src P e.size tx v m.length b w/\fx w I e m b:=by
 suffices ∃b,Src P e.size t0 v m.length b w/\fx w I e m b by
  obtain⟨b,c,q⟩:=this;exact⟨b,⟨p,c.len,c.cells,c.cellsD,c.newsLen,c.one⟩,q⟩
 rcases h with ⟨rfl,g,f,n,y,t⟩|⟨r,s,f,n,y,t,z⟩
 .refine⟨[],?_,λi x A=>by cases A⟩;rcases t with rfl|⟨r,s,rfl⟩
  .rw[n];cases g with
   | none=>exact Src.ofNil w l 0
   | some C=>exact Src.ofSlice w l C 0 0 [] bb (λj u k=>by cases k) Fm
  .rw[n];exact Src.ofSlice w l _ 0 f [] bb (λj u k=>by cases k) Fm
 .obtain⟨b,c,q,D,E⟩:=Ex z;refine⟨b,?_,E⟩;rw[n];exact Src.ofSlice w l _ m.length f b c (λj u k=>by rw[addr_add];exact q j u k) D
def agM{I s tx}(h:(∃k,P.underlying tx=ab (.slice k))\/P.underlying tx=ab .string) :
  ∃e,Src P 1 tx (.string ⟨s.toArray⟩) (aC s).length e w/\fx w I (.int .u8) (aC s:List Int) e:=by
 have hlen:(aC s).length=(⟨s.toArray⟩:ByteArray).size:=by simp[aC,ByteArray.size]
 refine⟨byteCells ⟨s.toArray⟩,by rw[hlen];exact⟨h,λ_=>rfl,firstCells_string _ w,firstCells_string _ w.drew,by rw[byteCells_length,Ln],λu l=>by
  obtain⟨_,_,rfl⟩:=T3.1 l;rfl⟩,λi x m=>?_⟩
 have c:(aC s)[i]?=ab x:=m;simp only[aC,Ep] at c;cases g:s[i]? with
 | none=>rw[g] at c;cases c
 | some b =>
   rw[g] at c;obtain rfl:_=x:=aQ c;refine⟨?_,RH b⟩;apply Ld;intro j;rw[jP];split
   .rename_i f;obtain rfl:j=0:=by simp[Ty.size] at f;exact f
    simp[byteCells,Ty.size,g]
   .rename_i f;rw[Lb<|by simp[Ty.size] at f⊢;omega]
def B1{I t tx ty b e l m base sCap olds news x}(s:P.underlying t=ab (.slice b))(u:Den P e b)(v:Hr P b=true)
  (c:(Builtin.firstCells e.size l.length<|.slice base l.length sCap).run P w.drew=.ok olds.toArray w.drew) (f:olds.length=l.length*e.size) (y:fx w I e l olds)
  (h:Src P e.size tx x m.length news w) (z:fx w I e m news) (p:sCap<l.length+m.length) (A:l.length+m.length<=4294967296) :
  ∃(cap:Nat) (cells:Array Value),(Builtin.append_ #[t,tx] ty #[.slice base l.length sCap,x]).run P w=.ok (.slice (ab ⟨w.heap.size,0,ah⟩) (l.length+m.length) cap) (w.drew.alloc<|.cells cells b) /\
   l.length+m.length<=cap/\cap<=maxLen/\cells.size=cap*e.size/\fx w I e (l++m) cells.toList:=by
 obtain⟨C,i,q,r,D,E⟩:=u.info;have g:=growslice_fits p (by
  have:=adz A (B0 v q);omega)
 have j:=grownCap_ge w (l.length+m.length) sCap b;have k:i.cells.size=e.size:=by rw[<-eA e,<-E];simp
 refine⟨_,_,(run_append_grow_src w t tx ty b C i s q D base l.length sCap olds (by rw[r];exact c) x m.length news (by rw[r];exact h) p ai g),j,(grownCap_le_maxLen w _ sCap b (by have:=Ez;omega)),?_,?_⟩
 .have n:=h.newsLen;have o:(Builtin.zeroCells i.cells<|grownCap w (l.length+m.length) sCap b-(l.length+m.length)).size=(grownCap w (l.length+m.length) sCap b-(l.length+m.length))*e.size:=by
   simp[Builtin.zeroCells,k]
  rw[Array.size_append,o];simp only[Lg,jB,f,n];rw[<-iV,<-iV]
  grind
 .rw[Zq];exact y.append z f h.newsLen
def bM.grow{mem}(h:bM B γ mem w){b bx}(y:mem b=ab bx){e:Ty}{l l':List e.den}(j:bx.buf=true)(C:bx.val=.data (.slice e) l){blk cap}(hl:γ.loc b=ab (blk,cap))
  {cur cur' t fr} (L:w.heap[blk]?=ab (.cells cur t fr)) (D:ThB e cur fr) (agH:bx.tid=0\/t=bx.tid) (M:cur'.size=cur.size) (E:∀o,o<l.length*e.size->cur'[o]?=cur[o]?)
  (he:0<e.size) (F:l.length<=l'.length) (aiQ:l'.length<=cap) (agN:cap<=maxLen) (G:cur.size=cap*e.size) (H:fx w γ.I e l' cur'.toList) :
  let m:Box:={ bx with val:=.data (.slice e) l',aU:=bx.aU+1 }
  bM B γ (dt mem b m) (w.setRow blk cur')/\Ext B γ mem w γ (dt mem b m) (w.setRow blk cur'):=by
 intro m;have aiR:=setRow_heap w blk cur cur' t fr L;have g:=λi r=>setRow_other w blk i cur' (r);have v:=Box.er j C;have hx:Ext B γ mem w γ (dt mem b m) (w.setRow blk cur') :=
  { below:=⟨rfl,rfl,rfl,bb,λi r=>g i λe=>r (by rw[e];exact(h.fresh b blk cap (by rw[y];simp) hl).1)⟩
    I:=λ_ _ x=>x
    rM:=λ_ _ x=>.inl x
    cells:=λc o x=>by
     by_cases q:c=blk
     .subst q;have:=(h.sep b bx c cap o y hl x).2 j e l.length v;rw[cell_of_heap aiR,cell_of_heap L]
      grind
     .exact dM (g c q)
    boxes:=λc cx p=>by
     by_cases q:c=b
     .subst q;obtain rfl:cx=bx:=aQ (p.symm.trans y);exact⟨m,bI _ _,Nat.le_succ _,λk=>absurd k (by simp[m])⟩
     .exact⟨cx,by rw[bg _ q];exact p,cp _,λ_=>⟨rfl,rfl,rfl⟩⟩ }
 refine⟨?_,hx⟩;exact
  { dv:=h.FJ hx
    base:=by have:=h.base;simpa using this
    boxes:=λc cx p=>by
     by_cases q:c=b
     .subst q;rw[bI] at p;obtain rfl:=aQ p;simp only[m,j];exact⟨e,l',rfl,he,.inr ⟨blk,cap,cur',t,fr,hl,aiR,D.same M,agH,aiQ,agN,by rw[M];exact G,λi x r=>bY.mono hx.I hx.cells (H i x r)⟩⟩
     .rw[bg _ q] at p;refine(h.boxes c cx p).keep hx rfl λf z J=>g f λQ=>q ?_;subst Q;exact h.inj c b f z cap (by rw[p];simp) (by rw[y];simp) J hl
    inj:=λc d f R S p T A U=>h.inj c d f R S (by
     by_cases e:c=b
     .subst e;rw[y];simp
     .rwa [bg _ e] at p) (by
     by_cases e:d=b
     .grind
     .rwa [bg _ e] at T) A U
    fresh:=λc f z p A=>by
     have:=h.fresh c f z (by
      by_cases e:c=b
      .grind
      .rwa [bg _ e] at p) A
     simp_all
    vz:=λf s r=>by have:=h.vz f s r;simpa using this
    sep:=λc cx f z s p A r=>by
     by_cases q:c=b
     .subst q;rw[bI] at p;obtain rfl:=aQ p;obtain⟨V,W⟩:=h.sep c bx f z s y A r;refine⟨V,λ_ u n O=>?_⟩;have K:m.row=ab _:=Box.er j rfl;rw[K] at O;obtain⟨rfl,rfl⟩:=cd (aQ O);have:=W j e l.length v;exact Eo this (hS _ F)
     .rw[bg _ q] at p;exact h.sep c cx f z s p A r }
def ad7(i:bM B γ σ.mem w){e m x v tx t0 f}(c:(∃f,P.underlying tx=ab (.slice f))\/P.underlying tx=ab .string)(j:P.underlying t0=ab (.slice f))
  (g:cM γ σ.mem w x .val [v]) (h:yA e σ x=ab m):∃b,Src P e.size tx v m.length b w/\fx w γ.I e m b:=by
 unfold yA at h;split at h
 .rename_i t;obtain⟨q,k⟩:=my h;subst q;subst k;obtain⟨l,_⟩:=yD g;rw[l];exact agM c
 .exact agL c j (s9 i g h)
def Ac{α c}{t:Tree α}{y}(h:(bif c then .fail else t).run=ab y):c=false/\t.run=ab y:=by
 cases c with
 | true=>cases h
 | false=>exact⟨rfl,h⟩
def rO{base t tx ty c size x news}(g:P.underlying t=ab (.slice c))(e:(Go.sizeOf c).run P w=.ok size w)(b:Src P size tx x 0 news w) :
  (Builtin.append_ #[t,tx] ty #[.slice base 0 0,x]).run P w=.ok (.slice base 0 0) w:=by
 cases base with
 | none=>rcases b.kind with ⟨h,f⟩|f<;>simp[Builtin.append_,run_underlying g,run_underlying f,e,b.len,b.cells]
 | some j =>
   have i:news=[]:=by have:=b.newsLen;simpa using this
   subst i;rcases b.kind with ⟨h,f⟩|f<;>simp[Builtin.append_,run_underlying g,run_underlying f,e,b.len,b.cells,storeCells]
def Dx size base:(Builtin.firstCells size 0<|.slice base 0 0).run P w=.ok #[] w:=by
 cases base with
 | none=>exact run_firstCells_none w size 0 0 0
 | some b=>exact run_firstCells_some w size 0 b 0 0 [] bb (λj v c=>by cases c)
def l5{t tx ty e size x news n b sCap blk cur k h}(m:P.underlying t=ab (.slice e))(i:(Go.sizeOf e).run P w=.ok size w)
  (g:Src P size tx x n news w) (o:w.heap[blk]?=ab (.cells cur k h)) (j:nV cur h) (c:b+n<=sCap) (p:b*size+news.length<=cur.size) :
  (Builtin.append_ #[t,tx] ty #[.slice (ab ⟨blk,0,ah⟩) b sCap,x]).run P w=.ok (.slice (ab ⟨blk,0,ah⟩) (b+n) sCap) (w.setRow blk (bh cur.toList (b*size) news).toArray):=by
 have f:=dx (P:=P) blk _ k h news 0 cur w o j ai g.one;simp at f;rcases g.kind with ⟨q,l⟩|l<;>simp[Builtin.append_,run_underlying m,run_underlying l,i,g.len,c,g.cells,addr_add,f]
def EA{cs es k o}(h:o<k)(b:k<=cs.length):(bh cs k es)[o]?=cs[o]?:=by
 rw[bh,uw,WZ (by rw[kC];omega),jP,aX h]
def HA(hc:fS P cx){nb}{t tx ty}{s x}(h:dJ B N γ σ a w)(hd:∀k,d=ab k->k<N)(hk0:(∃e',P.underlying tx=ab (.slice e'))\/P.underlying tx=ab .string)
  (F:(iX cx nb d t (dw σ s) (dw σ x) σ).run=ab aY):oM P B N γ σ a w d (Builtin.append_ #[t,tx] ty #[a.eval s,a.eval x]) aY:=by
 have K:=h.dw s;have hvx:=h.dw x;unfold iX at F;split at F
 case h_2=>exact absurd F cl
 rename_i _ _ k e hT;obtain⟨C,S,f2,f3,f4⟩:=(hc.T _ _ hT).slice;have U:=f2.sizeOf w;split at F
 case h_2=>exact absurd F cl
 rename_i m hm;obtain⟨y,V,n2⟩:=ad7 h.ok hk0 S hvx hm;split at F
 .rename_i hs;rw[hs] at K;obtain G:a.eval s=_:=by simpa [cM] using K
  obtain⟨O,W⟩:=cO F;have O:=FV O;obtain⟨aU,D,hr3⟩:=ev W;obtain rfl:=aQ hr3;rw[G];rcases Zt m.length with A|A
  .obtain rfl:m=[]:=zN.1 A;obtain⟨m1,p⟩:=h.ok.LK D f4;refine⟨_,_,_,rO S U V,h.step p m1 (hd k rfl) ?_,p⟩;exact⟨⟨_,rfl,rfl⟩,gO (bI _ _) rfl ⟨e,0,rfl,rfl,.inl ⟨by simp[bU],rfl⟩⟩⟩
  .obtain⟨g,f,g1,g2,M,g4,g5⟩:=B1 (l:=([])) (sCap:=0) (olds:=[]) S f2 f3 (by simpa using run_firstCells_none w.drew e.size 0 0 0) bb (λi x hx=>by cases hx) V n2
    (by simpa using A) (by simpa using O)
   simp at g1 g2 g5;obtain⟨m1,p⟩:=h.ok.LJ D f4 ((wE.refl B w).drew.alloc h.ok.base _) (db w.drew _) (heap_alloc_new w.drew _) (wO _ _) (.inl rfl) g2 M g4 g5;refine⟨_,_,_,g1,h.step p m1 (hd k rfl) ?_,p⟩;exact zl rfl rfl
 .rename_i b aU hs;rw[hs] at K;split at F
  case h_2=>exact absurd F cl
  rename_i bx l X hl;obtain⟨u6,hb',D,c,Y⟩:∃bx,σ.mem b=ab bx/\bx.aU=aU/\bx.buf=true/\bx.val=.data (.slice e) l:=by
   rcases nX hl with q|⟨q,_⟩|⟨b',aol,u6,q,h1,Q,h3,h4⟩|⟨_,_,_,_,_,q,_⟩
   .cases q
   .cases q
   .grind
   .cases q
  obtain rfl:bx=u6:=aQ (X.symm.trans hb')
  .obtain⟨hlk,hr1⟩:=Ac F;obtain⟨O,W⟩:=cO hr1;obtain rfl:=aQ W;have O:l.length+m.length<=4294967296:=by
    have:fits (((l.length+m.length)):Int)=true:=by rw[<-O];simp[plus,len]
    exact FV this
   have R:bx.tid=0\/C=bx.tid:=by
    simp at hlk;have Q:=hlk.2;unfold aiH at Q;simp at Q;rcases Q with Q|Q
    .simp_all
    .split at Q
     .rename_i e' he';have:=hc.T8 _ _ he';simp_all
     .cases Q
   subst D;obtain⟨e2,n2',g1,g2,M⟩:=bA X rfl K.2;rw[Box.er c Y] at g2;obtain⟨rfl,rfl⟩:=cd (aQ g2);have hat:=h.ok.boxes b bx X;rw[fj,c] at hat;obtain⟨e3,l3,q1,q2,Z⟩:=hat;rw[Y] at q1;cases q1;have r:(app l m).length=l.length+m.length:=jB;rcases M with ⟨M,g4⟩|⟨E,g,M,g4⟩
   .obtain G:a.eval s=_:=by simpa using g4
    have hl0:l=[]:=by
     grind
    subst hl0;rw[G];rcases Zt m.length with A|A
    .obtain rfl:m=[]:=zN.1 A;have H:fj (bU γ b ah) (dt σ.mem b { bx with val:=.data (.slice e) ([]:List e.den),aU:=bx.aU+1 }) w b { bx with val:=.data (.slice e) ([]:List e.den),aU:=bx.aU+1 }:=by
      simp only[c];exact⟨e,[],rfl,f4,.inl ⟨by simp[bU],rfl⟩⟩
     have z:∀n,σ.mem b=ab n->n.aU<bx.aU+1:=λn A=>by rw[X] at A;obtain rfl:=aQ A;omega
     have m1:=h.ok.add z (wE.refl B w) (λ_ _=>rfl) (λE k e=>by cases e) H;have p:=vO (L:=ah) h.ok (bx:={ bx with val:=.data (.slice e) ([]:List e.den),aU:=bx.aU+1 }) z (wE.refl B w) (λ_ _=>rfl);refine⟨_,_,_,rO S U V,h.step p m1 (hd k rfl) ?_,p⟩;exact⟨⟨_,rfl,rfl⟩,gO (bI _ _) rfl ⟨e,0,c,Box.er (bx:={ bx with val:=.data (.slice e) ([]),aU:=bx.aU+1 }) c rfl,.inl ⟨by simp[bU],rfl⟩⟩⟩
    .obtain⟨g,f,j1,j2,j3,j4,j5⟩:=B1 (I:=γ.I) (ty:=ty) (l:=([])) S f2 f3 (by simpa using Dx e.size ah) bb (λi x hx=>by cases hx) V n2
      (by simpa using A) (by simpa using O)
     have z:∀n,σ.mem b=ab n->n.aU<bx.aU+1:=λn A=>by rw[X] at A;obtain rfl:=aQ A;omega
     have hw:wE B w (w.drew.alloc<|.cells f C):=(wE.refl B w).drew.alloc h.ok.base _;have p:=vO (L:=ab (w.heap.size,g)) h.ok (bx:={ bx with val:=.data (.slice e) (app (α:=e.den) [] m),aU:=bx.aU+1 }) z hw (db w.drew _);have H:fj (bU γ b<|some (w.heap.size,g)) (dt σ.mem b { bx with val:=.data (.slice e) (app (α:=e.den) [] m),aU:=bx.aU+1 }) (w.drew.alloc<|.cells f C) b { bx with val:=.data (.slice e) (app (α:=e.den) [] m),aU:=bx.aU+1 }:=by
      simp only[c];exact⟨e,_,rfl,f4,.inr ⟨w.heap.size,g,f,C,_,by simp[bU],heap_alloc_new w.drew _,wO _ _,R,by rw[r];exact j2,j3,j4,λi x hi=>bY.mono p.I p.cells (j5 i x hi)⟩⟩
     have m1:=h.ok.add (L:=ab _) z hw (db w.drew _) (λE k e=>by obtain⟨rfl,rfl⟩:=cd (aQ e);exact⟨cp _,(y7.1<|heap_alloc_new w.drew _).1⟩) H;refine⟨_,_,_,j1,h.step p m1 (hd k rfl) ?_,p⟩;exact zl c (by rw[<-r];exact Box.er c rfl)
   .obtain G:a.eval s=_:=by simpa using g4
    rw[G];rcases Z with ⟨Z,_⟩|⟨aa1,aiN,u,tid,fr,Z,q4,q5,akd,q6,q7,q8,q9⟩
    .rw[M] at Z;cases Z
    rw[M] at Z;obtain⟨rfl,rfl⟩:=cd (aQ Z);have hcl:u.toList.length=g*e.size:=by simpa using q8
    have hlc:l.length*e.size<=g*e.size:=hS _ q6;rcases vM g _ with hgt|hle
    .have hfc:=run_firstCells_some (P:=P) w.drew e.size l.length ⟨E,0,ah⟩ l.length g (u.toList.take<|l.length*e.size) (by rw[kC];omega) (λj v hj=>by
      rw[addr_add];show w.cell? ⟨E,0+j,ah⟩=ab v
      rw[cell_of_heap q4];rw[jP] at hj;split at hj
      .grind
      .cases hj)
     obtain⟨J,f,j1,j2,j3,j4,j5⟩:=B1 S f2 f3 hfc (by rw[kC];omega) (fx.front q9 (cp _) ai) V n2 hgt O;have z:∀n,σ.mem b=ab n->n.aU<bx.aU+1:=λn A=>by rw[X] at A;obtain rfl:=aQ A;omega
     have hw:wE B w (w.drew.alloc<|.cells f C):=(wE.refl B w).drew.alloc h.ok.base _;have p:=vO (L:=ab (w.heap.size,J)) h.ok (bx:={ bx with val:=.data (.slice e) (app (α:=e.den) l m),aU:=bx.aU+1 }) z hw (db w.drew _);have H:fj (bU γ b<|some (w.heap.size,J)) (dt σ.mem b { bx with val:=.data (.slice e) (app (α:=e.den) l m),aU:=bx.aU+1 }) (w.drew.alloc<|.cells f C) b { bx with val:=.data (.slice e) (app (α:=e.den) l m),aU:=bx.aU+1 }:=by
      simp only[c];exact⟨e,_,rfl,f4,.inr ⟨w.heap.size,J,f,C,_,by simp[bU],heap_alloc_new w.drew _,wO _ _,R,by rw[r];exact j2,j3,j4,λi x hi=>bY.mono p.I p.cells (j5 i x hi)⟩⟩
     have m1:=h.ok.add z hw (db w.drew _) (λE k e=>by obtain⟨rfl,rfl⟩:=cd (aQ e);exact⟨cp _,(y7.1<|heap_alloc_new w.drew _).1⟩) H;refine⟨_,_,_,j1,h.step p m1 (hd k rfl) ?_,p⟩;exact zl c (by rw[<-r];exact Box.er c rfl)
    .have hnl:=V.newsLen;have hmul:_*e.size<=g*e.size:=hS _ hle;rw[iV] at hmul;have hlen:l.length*e.size+y.length<=u.toList.length:=by rw[hnl,hcl];exact hmul
     have aiU:=l5 (ty:=ty) S U V q4 q5.th hle (by simpa using hlen);have alQ:(bh u.toList (l.length*e.size) y).toArray.size=u.size:=by have:=bT hlen;simpa using this
     obtain⟨m1,p⟩:=h.ok.grow X c Y M q4 q5 akd (cur':=(bh u.toList _ y).toArray) (l':=app l m) alQ (λo ho=>by
      have:=EA (es:=y) ho (by omega:l.length*e.size<=u.toList.length);simpa using this) f4 ai (by rw[r];exact hle) q7 q8 (by
      have:=(fx.front q9 (cp _) (by omega:l.length*e.size<=u.toList.length)).append (rest:=u.toList.drop (l.length*e.size+y.length)) n2 (by rw[kC];omega) hnl;exact this)
     refine⟨_,_,γ,aiU,h.step p m1 (hd k rfl) ?_,p⟩;exact⟨⟨_,rfl,rfl⟩,gO (bI _ _) rfl ⟨e,l.length+m.length,c,by rw[<-r];exact Box.er (bx:={ bx with val:=.data (.slice e) _,aU:=bx.aU+1 }) c rfl,.inr ⟨E,g,M,rfl⟩⟩⟩
 .exact absurd F cl
end
end Go.Ge
namespace Go.Ge
open RowKit
def ju(w:World)(I:Nat->Nat->Prop):(A:Ty)->A.den->List Value->Prop
 | .pair t r,x,vs=>∃c b,vs=cY t c::b/\bY w I t x.1 c/\ju w I r x.2 b
 | .unit,_,vs=>vs=[]
 | _,_,_=>False
def nq(w:World)(I:Nat->Nat->Prop)(R:Ty)(y:R.den)(v:Value):Prop:=cM ⟨I,λ_=>ah⟩ (λ_=>ah) w (wK R y) .val [v]
structure Holds (P:Program) (G:BT) (f:Nat) (c:BG):Prop where
 body:∃fn code,P.funcs[f]?=ab fn/\(fn.name == "runtime.NumGoroutine")=false/\fn.body=ab code
 calls:∀(I:Nat->Nat->Prop) (w:World) (args:Array Value) (x:c.A.den) (y:c.R.den),(∀b o,I b o->b<w.heap.size)->Hq G w->ju w I c.A x args.toList->c.spec x=ab y ->
  Calls P f args w λe w'=>∃v I',e=.returned v/\Below w.heap.size w w'/\(∀b o,I b o->I' b o)/\(∀b o,I' b o->b<w'.heap.size)/\(∀b o,I' b o->¬I b o->w.heap.size<=b)/\nq w' I' c.R y v
def l6(P:Program)(G:BT)(g:String)(c:BG):Prop :=
 ∀(I:Nat->Nat->Prop) (w:World) (v:Value) (i:List Value) (x:c.A.den) (y:c.R.den),(∀b o,I b o->b<w.heap.size)->Hq G w->ju w I c.A x (v::i)->c.spec x=ab y ->
  ∃f u,(callMethod v g i.toArray).run P w=(callFunc f (u::i).toArray).run P w/\(∃k h,P.funcs[f]?=ab k/\(k.name == "runtime.NumGoroutine")=false/\k.body=ab h) /\
  Calls P f (u::i).toArray w λe w'=>∃v j,e=.returned v/\Below w.heap.size w w'/\(∀b o,I b o->j b o)/\(∀b o,j b o->b<w'.heap.size)/\(∀b o,j b o->¬I b o->w.heap.size<=b)/\nq w' j c.R y v
def LV{P G name B R}:l6 P G name ⟨.pair .Bz B,R,λ_=>ah⟩:=λI w v b x y _ _ _ h=>by cases h
def nZ{P G name}{u f:Nat}{a r B R:Ty}{s:a.den×B.den->Option R.den}{t:r.den×B.den->Option R.den}(h:Holds P G f ⟨.pair a B,R,s⟩)
  (o:∀v w,(method (P.types.size+Made.depth) u v name).run P w=.ok (f,v) w) (L:r.isAgg=false) (A:l6 P G name ⟨.pair r B,R,t⟩) :
  l6 P G name ⟨.pair (.alt u a r) B,R,λx=>pick (λy=>s (y,x.2)) (λz=>t (z,x.2)) x.1⟩:=by
 intro I w v b x y g i C j;obtain⟨D,E⟩:=x;obtain⟨F,k,H,l,m⟩:=C;obtain⟨n,rfl⟩:=adC H;rcases D with p|q
 .obtain⟨M,c,rfl,J⟩:=l;refine⟨f,cY a c,?_,h.body,h.calls I w (cY a c::b).toArray _ y g i ⟨c,b,rfl,J,m⟩ j⟩;have K:v=.iface u (cY a c):=by
   rw[n];show cY r [Value.iface u _]=_
   unfold cY
   grind
  rw[K];have e:=o (cY a c) w;unfold callMethod;simp only[Sem.run_bind,run_program,Result.andThen_ok,e];simp
 .exact A I w v b (q,E) y g i ⟨F,b,by rw[n];rfl,l,m⟩ j
def bM.far{B γ mem w w'}(h:bM B γ mem w)(e:Below w.heap.size w w'){I'}(n:∀b o,γ.I b o->I' b o)(j:∀b o,I' b o->b<w'.heap.size)
  (f:∀b o,I' b o->¬γ.I b o->w.heap.size<=b):bM B ⟨I',γ.loc⟩ mem w'/\Ext B γ mem w ⟨I',γ.loc⟩ mem w':=by
 have hx:Ext B γ mem w ⟨I',γ.loc⟩ mem w' :=
  { below:=.of ⟨e.os,e.tape,e.output,e.size,λk p=>e.block k (Eo p h.base)⟩
    I:=n
    rM:=λb o x=>by
     by_cases hi:γ.I b o
     .grind
     .exact .inr (.inl<|iU h.base<|f b o x hi)
    cells:=λb o hi=>dM (e.block b<|h.vz b o hi)
    boxes:=λb l hb=>⟨l,hb,cp _,λ_=>⟨rfl,rfl,rfl⟩⟩ }
 refine⟨?_,hx⟩;exact
  { dv:=h.FJ hx
    base:=iU h.base e.size
    boxes:=λb l hb=>(h.boxes b l hb).keep hx rfl λc k i=>e.block c (h.fresh b c k (by rw[hb];simp) i).2
    inj:=h.inj
    fresh:=λb c k hb i=>by have:=h.fresh b c k hb i;exact⟨this.1,Eo this.2 e.size⟩
    vz:=j
    sep:=λb l c k g hb i hi=>by
     by_cases m:γ.I c g
     .exact h.sep b l c k g hb i m
     .have q:=f c g hi m;have r:=(h.fresh b c k (by rw[hb];simp) i).2;omega }
def aa5{w γ bJ mem cT}(f:∀b o,γ.I b o->bJ.I b o):∀{R y vs},cM γ mem w (BN R y) .many vs->cM bJ cT w (BN R y) .many vs:=by
 intro R;induction R with
 | pair t r g e =>
   intro y vs h;obtain⟨v,c,i,⟨j,k,l⟩,m⟩:=h;exact⟨v,c,i,⟨j,bY.mono f (λ_ _ _=>rfl) k,l⟩,e m⟩
 | _=>intro y vs h;exact h
def FX(R:Ty) y:(∃t,∃q:R=.pair t .unit,wK R y=.data t (show(Ty.pair t .unit).den from q▸y).1)\/wK R y=.BF (BN R y):=by
 cases R with
 | pair t r =>
   cases r with
   | unit=>exact .inl ⟨t,rfl,rfl⟩
   | _=>exact .inr rfl
 | _=>exact .inr rfl
def nq.rep{w I R y v}(h:nq w I R y v){γ mem}(i:∀b o,I b o->γ.I b o):cM γ mem w (wK R y) .val [v]:=by
 unfold nq at h;rcases FX R y with ⟨t,q,c⟩|c
 .rw[c] at h⊢;obtain⟨j,e,f⟩:=h;exact⟨j,bY.mono i (λ_ _ _=>rfl) e,f⟩
 .rw[c] at h⊢;obtain⟨g,e,f⟩:=h;exact⟨g,e,aa5 i f⟩
def LW{w w' γ bJ mem cT}:∀{R y vs},R.flat=true->cM γ mem w (BN R y) .many vs->cM bJ cT w' (BN R y) .many vs:=by
 intro R;induction R with
 | pair t r f e =>
   intro y vs c h;simp only[Ty.flat,gy] at c;obtain⟨v,b,g,⟨i,j,k⟩,l⟩:=h;exact⟨v,b,g,⟨i,bY.flat c.1 j,k⟩,e c.2 l⟩
 | _=>intro y vs c h;exact h
def nq.flat{w w' I R y v}(h:nq w I R y v){γ mem}(b:R.flat=true):cM γ mem w' (wK R y) .val [v]:=by
 unfold nq at h;rcases FX R y with ⟨t,q,c⟩|c
 .rw[c] at h⊢;subst q;simp only[Ty.flat,gy] at b;obtain⟨i,e,f⟩:=h;exact⟨i,bY.flat b.1 e,f⟩
 .rw[c] at h⊢;obtain⟨g,e,f⟩:=h;exact⟨g,e,LW b f⟩
section
variable {P:Program} {B:BA} {N:Nat} {γ:Gh} {σ aY:St} {a:Act} {w w':World} {d:Option Nat} {cx:Ctx}
def BV.alR{I I' e l v}(h:BV w I e l v)(s:∀b o,I b o->I' b o)(t:∀f g k,v=.slice (ab ⟨f,g,ah⟩) l.length k->l≠[]->∀o,I' f o) :
  bY w I' (.slice e) l [v]:=by
 rcases h with ⟨rfl,m,k,n,q,r⟩|⟨f,g,k,n,q,r,u⟩
 .rcases r with rfl|⟨f,g,rfl⟩
  .exact .inl ⟨⟨m,by rw[n]⟩,rfl⟩
  .exact .inr ⟨f,g,k,by rw[n];rfl,qK _,q,λi x p=>by cases p⟩
 .refine .inr ⟨f,g,k,by rw[n],q,r,λi x p=>?_⟩;obtain⟨y,z,A,C⟩:=u i x p;exact⟨y,z,λj c D=>⟨A j c D,t f g k n (λe=>by rw[e] at p;cases p) _⟩,bY.mono s (λ_ _ _=>rfl) C⟩
def RI(x:bM B γ σ.mem w){e v l blk off n cap}(y:cM γ σ.mem w v .val [.slice (ab ⟨blk,off,ah⟩) n cap])(D:jH e σ v=ab l)(j:l≠[]) :
  (∃q,v=.data (.slice e) q)\/(B.has blk/\blk<w.heap.size):=by
 rcases nX D with rfl|⟨rfl,rfl⟩|⟨b,r,E,rfl,m,f,z,F⟩|⟨b,r,K,L,E,rfl,m,f,s⟩
 .exact .inl ⟨_,rfl⟩
 .exact absurd rfl j
 .obtain⟨G,k,M,H,o⟩:=bA m f y.2;rcases o with ⟨o,A⟩|⟨g,h,o,A⟩
  .grind
  .have i:blk=g:=by
    grind
   subst i;exact .inr (x.fresh b blk h (by rw[m];simp) o)
 .obtain⟨G,k,H,o,A,O,C,h,I,Q,R,S,p⟩:=bA m f y.2;have t:=BH I;rcases p with p|⟨g,c,p,u⟩
  .exfalso;apply j;rcases s with ⟨_,J,_,rfl⟩|⟨_,T,J,_,rfl⟩<;>simp[sub,p]
  .injection t with i _ _
   rw[u] at i;injection i with i
   injection i with i _
   subst i;exact .inr (x.fresh b blk c (by rw[m];simp) p)
def EB(F:bM B γ σ.mem w){I'}(G:∀b o,γ.I b o->I' b o)(J:∀b o,B.has b->b<w.heap.size->I' b o):∀{v t x cs},
  cM γ σ.mem w v .cells cs->sH σ t v=ab x->bY w I' t x cs:=by
 have m:∀{v e l cs},ek v=1->(∀c,cM γ σ.mem w v .cells [c]->cM γ σ.mem w v .val [c])->(∀t x,v≠.data t x)->cM γ σ.mem w v .cells cs->jH e σ v=ab l->bY w I' (.slice e) l cs:=by
  intro v e l cs A i K h f;obtain⟨c,rfl⟩:=IX h A;have hv:=i c h;refine(s9 F hv f).alR G λL M O Q C o=>?_;subst Q;rcases RI F hv f C with ⟨q,j⟩|⟨H,W⟩
  .grind
  .grind
 intro v;induction v with
 | data u y =>
   intro t x cs h f;have key:(∃q:u=t,x=q▸y):=by
    cases t with
    | slice e =>
      rcases nX f with g|⟨g,_⟩|⟨_,_,_,g,_⟩|⟨_,_,_,_,_,g,_⟩
      .injection g with R S;subst R;exact⟨rfl,(eq_of_heq S).symm⟩
      .cases g
      .cases g
      .cases g
    | _=>exact Ty.lX f
   obtain⟨q,j⟩:=key;subst q;subst j;exact bY.mono G (λ_ _ _=>rfl) h
 | mix p q D E =>
   intro t x cs h f;cases t with
   | pair s r =>
     obtain⟨T,U,rfl,A,H⟩:=h;obtain⟨y,z,V,j,rfl⟩:=FR f;exact⟨T,U,rfl,D A V,E H j⟩
   | slice e=>exact absurd f cl
   | _=>cases f
 | pQ =>
   intro t x cs h f;cases t with
   | slice e=>exact m (v:=.pQ) rfl (λc k=>k) (λ_ _=>bb) h f
   | _=>cases f
 | whole b aU =>
   intro t x cs h f;cases t with
   | slice e=>exact m (v:=.whole b aU) rfl (λc k=>k) (λ_ _=>bb) h f
   | _=>cases f
 | part b aU lo n =>
   intro t x cs h f;cases t with
   | slice e=>exact m (v:=.part b aU lo n) rfl (λc k=>k) (λ_ _=>bb) h f
   | _=>cases f
 | uz =>
   intro t x cs h f;obtain rfl:cs=[.nilIface]:=h;exact(qW f).1 _ _
 | _ =>
   intro t x cs h f;cases t with
   | slice e=>exact absurd f cl
   | _=>cases f
def LX(j:bM B γ σ.mem w){I'}(k:∀b o,γ.I b o->I' b o)(h:∀b o,B.has b->b<w.heap.size->I' b o){v t x val}
  (f:cM γ σ.mem w v .val [val]) (c:sH σ t v=ab x):∃i,bY w I' t x i/\val=cY t i:=by
 have one:∀{v},cM γ σ.mem w v .cells [val]->(∃e,t=.slice e)->sH σ t v=ab x->∃i,bY w I' t x i/\val=cY t i:=by
  intro v z A c;obtain⟨e,rfl⟩:=A;exact⟨[val],EB j k h z c,rfl⟩
 cases v with
 | data u y =>
   obtain⟨i,l,m⟩:=eE.1 f;have z:=EB j k h (v:=.data u y) l c;rw[m];have:u.isAgg=t.isAgg:=by
    cases t with
    | slice e =>
      rcases nX c with g|⟨g,_⟩|⟨_,_,_,g,_⟩|⟨_,_,_,_,_,g,_⟩
      .injection g with C G;rw[C]
      .cases g
      .cases g
      .cases g
    | _=>obtain⟨q,_⟩:=Ty.lX c;rw[q]
   unfold cY
   grind
 | mix p q =>
   obtain⟨D,E,F,l,m⟩:=f;obtain rfl:val=_:=by simpa using F
   refine⟨_,(EB j k h (v:=.mix p q) ⟨D,E,rfl,l,m⟩ c),?_⟩;cases t with
   | pair s r=>rfl
   | slice e=>exact absurd c cl
   | _=>cases c
 | pQ=>cases t with
   | slice e=>exact one f ⟨e,rfl⟩ c
   | _=>cases c
 | whole b aU=>cases t with
   | slice e=>exact one f ⟨e,rfl⟩ c
   | _=>cases c
 | part b aU lo n=>cases t with
   | slice e=>exact one f ⟨e,rfl⟩ c
   | _=>cases c
 | uz =>
   have f:[val]=[Value.nilIface]:=f;obtain rfl:val=.nilIface:=by simpa using f
   exact⟨[.nilIface],(qW c).1 _ _,(qW c).2.2.1.symm⟩
 | _=>cases t with
   | slice e=>exact absurd c cl
   | _=>cases c
def nr(f:Gh)(b:Nat->Option Box)(w:World)(c:List cB)(e:List Value):Prop:=e.length=c.length/\∀(i:Nat) v x,c[i]?=ab v->e[i]?=ab x->cM f b w v .val [x]
def nr.cons{mem v vs b}(h:nr γ mem w (v::vs) b):∃x r,b=x::r/\cM γ mem w v .val [x]/\nr γ mem w vs r:=by
 cases b with
 | nil=>cases h.1
 | cons x r=>exact⟨x,r,rfl,h.2 0 v x rfl rfl,by simpa using h.1,λi c e f g=>h.2 (i+1) c e f g⟩
def nr.ext{mem cT bJ vs b}(h:nr γ mem w vs b)(c:Ext B γ mem w bJ cT w'):nr bJ cT w' vs b:=⟨h.1,λi v x e f=>(h.2 i v x e f).ext c⟩
def OD(j:bM B γ σ.mem w){I'}(k:∀b o,γ.I b o->I' b o)(g:∀b o,B.has b->b<w.heap.size->I' b o):∀{A x vs e},
  nr γ σ.mem w vs e->jr σ A vs=ab x->ju w I' A x e:=by
 intro A;induction A with
 | pair t r l i =>
   intro x vs e h c;cases vs with
   | nil=>cases c
   | cons v vs =>
     obtain⟨y,f,rfl,m,n⟩:=h.cons;simp only[jr] at c;split at c
     .rename_i p q s u;obtain rfl:=aQ c;obtain⟨z,C,D⟩:=LX j k g m s;exact⟨z,f,by rw[D],C,i n u⟩
     .cases c
 | unit =>
   intro x vs e h c;cases vs with
   | nil=>exact zN.1 h.1
   | cons v vs=>cases c
 | _=>intro x vs e h c;cases vs<;>cases c
def ju.mono{I I'}(f:∀b o,I b o->I' b o)(g:∀b o,I b o->w'.cell? ⟨b,o,ah⟩=w.cell? ⟨b,o,ah⟩):∀{A x c},ju w I A x c->ju w' I' A x c:=by
 intro A;induction A with
 | pair t r i e=>intro x c h;obtain⟨j,rest,k,l,m⟩:=h;exact⟨j,rest,k,bY.mono f g l,e m⟩
 | _=>intro x c h;exact h
def tJ:∀{A x vs c σ aY γ},dJ B N γ σ a w->nr γ σ.mem w vs c->lY σ A vs=ab (x,aY) ->
  ∃bJ,dJ B N bJ aY a w/\Ext B γ σ.mem w bJ aY.mem w/\ju w bJ.I A x c:=by
 intro A;induction A with
 | pair t r m g =>
   intro x vs c σ aY γ h f b;cases vs with
   | nil=>cases b
   | cons v vs =>
     obtain⟨y,e,rfl,n,o⟩:=f.cons;simp only[lY] at b;split at b
     .rename_i p b5 s;split at b
      .rename_i q cP u;obtain⟨rfl,rfl⟩:=cd (aQ b);obtain⟨z,C,l,D,E,i⟩:=nY h n s;obtain i:y=_:=by simpa using i
       obtain⟨j,F,k,G⟩:=g C (o.ext l) u;exact⟨j,F,l.trans k,D,e,by rw[i],bY.mono k.I k.cells E,G⟩
      .cases b
     .cases b
 | unit =>
   intro x vs c σ aY γ h f b;cases vs with
   | nil=>obtain⟨rfl,rfl⟩:=cd (aQ b);exact⟨γ,h,Ext.refl _ _ _ _,zN.1 f.1⟩
   | cons v vs=>cases b
 | _=>intro x vs c σ aY γ h f b;cases vs<;>cases b
def ad8(w:World)(I:Nat->Nat->Prop)(t:Ty)(x:t.den)(c:Nat):Prop:=∃b tid e,w.heap[c]?=ab (.cells b tid e)/\nV b e/\bY w I t x b.toList
def yF(w:World)(I:Nat->Nat->Prop):(U:Ty)->U.den->List Nat->Prop
 | .pair t U,u,c=>∃b r,c=b::r/\ad8 w I t u.1 b/\yF w I U u.2 r
 | .unit,_,c=>c=[]
 | _,_,_=>False
def Uq(w:World)(I:Nat->Nat->Prop):List Bool->(A U:Ty)->A.den->List Value->List Nat->Prop
 | [],A,U,_,vs,c=>A=.unit/\U=.unit/\vs=[]/\c=[]
 | false::ps,A,U,x,vs,c=>match A,x with
   | .pair t A,x=>∃f b,vs=cY t f::b/\bY w I t x.1 f/\Uq w I ps A U x.2 b c
   | _,_=>False
 | true::ps,A,U,x,vs,c=>match U with
   | .pair _ U=>∃e b r,vs=.pointer (ab ⟨e,0,ah⟩)::b/\c=e::r/\Uq w I ps A U x b r
   | _=>False
structure gh (P:Program) (G:BT) (f:Nat) (c:BK):Prop where
 body:∃fn code,P.funcs[f]?=ab fn/\(fn.name == "runtime.NumGoroutine")=false/\fn.body=ab code
 calls:∀(I:Nat->Nat->Prop) (w:World) (args:Array Value) (bs:List Nat) (x:c.A.den) (u:c.U.den) (y:c.R.den×c.U.den),(∀b o,I b o->b<w.heap.size)->Hq G w->(∀b Q,G b Q->b∉bs)->Uq w I c.ps c.A c.U x args.toList bs->yF w I c.U u bs->bs.Nodup ->
  (∀blk∈bs,∀o,¬I blk o)->c.spec (x,u)=ab y ->
  Calls P f args w λe w'=>∃v I',e=.returned v/\wE ⟨w.heap.size,(·∈bs),G⟩ w w'/\(∀b o,I b o->I' b o)/\(∀b o,I' b o->b<w'.heap.size)/\(∀b o,I' b o->¬I b o->w.heap.size<=b)/\nq w' I' c.R y.1 v/\yF w' I' c.U y.2 bs
structure xL (og:Option Nat) (w w':World):Prop where
 os:w'.os=w.os
 tape:w'.tape=w.tape
 output:w'.output=w.output
 size:w.heap.size<=w'.heap.size
 block:∀k,k<w.heap.size->og≠ab k->w'.heap[k]?=w.heap[k]?
 cell:∀k o,k<w.heap.size->w'.cell? ⟨k,o,ah⟩=w.cell? ⟨k,o,ah⟩
def xU(w:World)(I:Nat->Nat->Prop)(e:Ty)(l:List e.den)(L:Option (Nat×Nat))(v:Value):Prop :=
 (L=ah/\l=[]/\v=.slice ah 0 0)\/∃c b f tid g,L=ab (c,b)/\v=.slice (ab ⟨c,0,ah⟩) l.length b/\w.heap[c]?=ab (.cells f tid g)/\ThB e f g /\
  l.length<=b/\b<=maxLen/\f.size=b*e.size/\(∀o,¬I c o)/\∀(i:Nat) (x:e.den),l[i]?=ab x->bY w I e x ((f.toList.drop<|i*e.size).take e.size)
structure l7 (w:World) (I:Nat->Nat->Prop) (X:Nat->Prop) (w':World) (I':Nat->Nat->Prop):Prop where
 below:wE ⟨w.heap.size,X,xR⟩ w w'
 held:∀b o,I b o->I' b o
 vz:∀b o,I' b o->b<w'.heap.size
 rM:∀b o,I' b o->¬I b o->w.heap.size<=b
def fk(P:Program)(f:Nat):Spc->Prop
 | .chk T=>(∃fn h,P.funcs[f]?=ab fn/\(fn.name == "runtime.NumGoroutine")=false/\fn.body=ab h) /\
  ∀(w:World) (b:Nat) (p v:Value) (n:Nat×Nat),w.heap[b]?=ab (.cells #[p,v] T n)->¬(n.1<=0/\0<n.2)->(p=.pointer ah\/p=.pointer (ab ⟨b,0,ah⟩)) ->
   Calls P f #[.pointer<|some ⟨b,0,ah⟩] w λe w'=>e=.returned (.tuple #[])/\(w'=w\/w'=w.setRow b #[.pointer<|some ⟨b,0,ah⟩,v])
 | .str T E=>(∃fn h,P.funcs[f]?=ab fn/\(fn.name == "runtime.NumGoroutine")=false/\fn.body=ab h) /\
  ∀(w:World) (b:Nat) (p v:Value) (n:Nat×Nat) (l:ay) (r:Option Nat),w.heap[b]?=ab (.cells #[p,v] T n) ->
   ((r=ah/\v=.slice ah 0 0/\l=[])\/∃(g cap:Nat) (cur:Array Value) (fr':Nat×Nat),r=ab g/\v=.slice (ab ⟨g,0,ah⟩) l.length cap/\w.heap[g]?=ab (.cells cur E fr')/\l.length<=cap/\cap<=maxLen/\cur.size=cap/\∀(j:Nat) (x:UInt8),l[j]?=ab x->cur[j]?=ab (Value.int .u8 x.toNat)) ->
   Calls P f #[.pointer<|some ⟨b,0,ah⟩] w λe w'=>e=.returned (.string ⟨l.toArray⟩)/\xL r w w'
 | .clone e=>(∃fn h,P.funcs[f]?=ab fn/\(fn.name == "runtime.NumGoroutine")=false/\fn.body=ab h) /\
  ∀(I:Nat->Nat->Prop) (w:World) (args:Array Value) (l:List e.den),(∀b o,I b o->b<w.heap.size)->ju w I (.pair (.slice e) .unit) (l,()) args.toList->fits (len l)=true ->
   Calls P f args w λq w'=>∃v m L,q=.returned v/\l7 w I (λ_=>False) w' m/\xU w' m e l L v/\∀i c,L=ab (i,c)->w.heap.size<=i
 | .own e A res spec=>(∃fn h,P.funcs[f]?=ab fn/\(fn.name == "runtime.NumGoroutine")=false/\fn.body=ab h) /\
  ∀(I:Nat->Nat->Prop) (w:World) (args:Array Value) (v:Value) (rest:List Value) (l l':List e.den) (L:Option (Nat×Nat)) (x:A.den),(∀b o,I b o->b<w.heap.size)->args.toList=v::rest->xU w I e l L v->ju w I A x rest->spec l x=ab l' ->
   Calls P f args w λq w'=>∃m,l7 w I (λk=>∃c,L=ab (k,c)) w' m /\
    match res with
    | true=>∃s t,q=.returned s/\xU w' m e l' t s/\∀i c,t=ab (i,c)->(∃c,L=ab (i,c))\/w.heap.size<=i
    | false=>q=.returned (.tuple #[])/\l'.length=l.length/\xU w' m e l' L v
structure qX (P:Program) (G:BT) (cx:Ctx):Prop where
 con:∀f c,find cx.con f=ab c->Holds P G f c
 adK:∀f c,find cx.adK f=ab c->gh P G f c
 TL:∀f s,find cx.TL f=ab s->fk P f s
 inv:∀name c,T9 cx.inv name=ab c->l6 P G name c
def Refs(h:Gh)(e:Nat->Option Box):(U:Ty)->U.den->List Nat->List Nat->Prop
 | .pair t U,u,ns,g=>∃b r f q c k,ns=b::r/\g=f::q/\b∉r/\e b=ab c/\c.buf=false/\c.lk=false/\(c.ro=false/\c.tid=0)/\c.val=.data t u.1/\h.loc b=ab (f,k)/\Refs h e U u.2 r q
 | .unit,_,ns,g=>ns=[]/\g=[]
 | _,_,_,_=>False
def LY{l t}:dA l t=true↔t∈l:=by
 induction l with
 | nil=>simp[dA]
 | cons i r b =>
   simp only[dA];simp_all
def Refs.LZ{mem}:∀{U u ns e},Refs γ mem U u ns e->∀c∈e,∃b f k,b∈ns/\mem b=ab f/\f.ro=false/\γ.loc b=ab (c,k):=by
 intro U;induction U with
 | pair t U j l =>
   intro u ns e h c g;obtain⟨b,r,i,q,f,k,rfl,rfl,m,n,o,p,s,v,x,y⟩:=h
   grind
 | unit=>intro u ns e h c g;rw[h.2] at g;cases g
 | _=>intro u ns e h;exact h.elim
def Refs.nodup{mem}(i:bM B γ mem w):∀{U u ns c},Refs γ mem U u ns c->c.Nodup:=by
 intro U;induction U with
 | pair t U j f =>
   intro u ns c h;obtain⟨b,r,e,q,y,k,rfl,rfl,z,l,A,C,D,E,m,g⟩:=h;rw[List.nodup_cons];refine⟨λn=>?_,f g⟩;obtain⟨o,p,s,F,v,G,x⟩:=g.LZ e n;have:=i.inj b o e k s (by rw[l];simp) (by rw[v];simp) m x
   grind
 | unit=>intro u ns c h;rw[h.2];exact List.nodup_nil
 | _=>intro u ns c h;exact h.elim
def Refs.val{mem w' I'}:∀{U u y ns e},Refs γ mem U u ns e->yF w' I' U y e->∀{c v},rC U y ns c=ab v ->
  ∃(t:Ty) (x z:t.den) (bx:Box) (blk k:Nat),mem c=ab bx/\bx.buf=false/\bx.lk=false/\(bx.ro=false/\bx.tid=0)/\bx.val=.data t x/\v=.data t z/\γ.loc c=ab (blk,k)/\blk∈e/\ad8 w' I' t z blk:=by
 intro U;induction U with
 | pair t U j l =>
   intro u y ns e h g c v f;obtain⟨b,r,blk,q,bx,k,rfl,rfl,n,o,p,s,A,C,D,E⟩:=h;obtain⟨i,F,G,H,I⟩:=g;simp only[rC] at f;cases m:Nat.beq c b with
   | true =>
     obtain rfl:=iT m
     grind
   | false =>
     grind
 | unit=>intro u y ns e h g c v f;cases f
 | _=>intro u y ns e h;exact h.elim
def Refs.ad9{mem}:∀{U u y ns f},Refs γ mem U u ns f->∀c∈f,∃b v g k,rC U y ns b=ab v/\mem b=ab g/\g.ro=false/\γ.loc b=ab (c,k):=by
 intro U;induction U with
 | pair t U l i =>
   intro u y ns f h c e;obtain⟨b,r,j,q,g,k,rfl,rfl,x,m,z,A,n,C,o,p⟩:=h;rcases lW.1 e with rfl|e
   .exact⟨b,.data t y.1,g,k,by simp[rC],m,n.1,o⟩
   .obtain⟨D,E,s,F,G,H⟩:=i (y:=y.2) p c e;simp only[rC]
    grind
 | unit=>intro u y ns f h c e;rw[h.2] at e;cases e
 | _=>intro u y ns f h;exact h.elim
def uD{U y ns σ c}:(zX U y ns σ).mem c=match rC U y ns c with|some v=>(match σ.mem c with|some b=>ab { b with val:=v }|none=>ah)|none=>σ.mem c:=rfl
def bM.refs(h:bM B γ σ.mem w){U u y ns s}(A:Refs γ σ.mem U u ns s){G}(j:wE ⟨w.heap.size,(·∈s),G⟩ w w'){I'}(R:∀b o,γ.I b o->I' b o)(D:∀b o,I' b o->b<w'.heap.size)
  (E:∀b o,I' b o->¬γ.I b o->w.heap.size<=b) (M:yF w' I' U y s) :
  bM B ⟨I',γ.loc⟩ (zX U y ns σ).mem w'/\Ext B γ σ.mem w ⟨I',γ.loc⟩ (zX U y ns σ).mem w':=by
 have f:∀k,k<w.heap.size->k∉s->w'.heap[k]?=w.heap[k]?:=λk F i=>j.block k λq=>by
  rcases q with q|q
  .grind
  .grind
 have H:∀blk∈s,B.has blk/\blk<w.heap.size:=λblk i=>by
  obtain⟨b,bx,k,g1,g2,g3,g4⟩:=A.LZ blk i;exact h.fresh b blk k (by rw[g2];simp) g4
 have l:∀blk∈s,∀o,¬γ.I blk o:=λblk i o C=>by
  obtain⟨b,bx,k,g1,g2,g3,g4⟩:=A.LZ blk i;have:=(h.sep b bx blk k o g2 g4 C).1
  grind
 have J:∀k,¬B.has k->k<w.heap.size:=λk F=>Zw λq=>F (.inl<|iU h.base q);have m:∀c,(zX U y ns σ).mem c≠ah->σ.mem c≠none:=by
  intro c hc V;apply hc;rw[uD]
  grind
 have hx:Ext B γ σ.mem w ⟨I',γ.loc⟩ (zX U y ns σ).mem w' :=
  { below:=⟨j.os,j.tape,j.output,j.size,λk F=>f k (J k F) λi=>F (H k i).1⟩
    I:=R
    rM:=λb o x=>by
     grind
    cells:=λb o C=>dM (f b (h.vz b o C) λi=>l b i o C)
    boxes:=λc cx hc=>by
     rw[uD,hc];cases hv:rC U y ns c with
     | none=>exact⟨cx,rfl,cp _,λ_=>⟨rfl,rfl,rfl⟩⟩
     | some v =>
       obtain⟨t,x,z,bx,blk,k,g1,g2,g3,g4,g5,g6,g7,g8,O⟩:=A.val M hv;rw[hc] at g1;obtain rfl:=aQ g1;refine⟨_,rfl,cp _,λ_=>⟨rfl,rfl,?_⟩⟩;subst g6;unfold Box.row;simp only[g2,g5];cases t<;>rfl }
 refine⟨?_,hx⟩;exact
  { dv:=h.FJ hx
    base:=iU h.base j.size
    boxes:=λc cx hc=>by
     rw[uD] at hc;cases hv:rC U y ns c with
     | none =>
       rw[hv] at hc;replace hc:σ.mem c=ab cx:=hc;refine(h.boxes c cx hc).keep hx rfl λblk k p=>?_;refine f blk (h.fresh c blk k (by rw[hc];simp) p).2 λi=>?_;obtain⟨b,v,bx,k',g1,g2,g3,g4⟩:=A.ad9 (y:=y) blk i;have:=h.inj c b blk k k' (by rw[hc];simp) (by rw[g2];simp) p g4
       grind
     | some v =>
       obtain⟨t,x,z,bx,blk,k,g1,g2,g3,g4,g5,g6,g7,g8,O⟩:=A.val M hv;rw[hv,g1] at hc;obtain rfl:=aQ hc;obtain⟨cur,tid,fr,j1,j2,S⟩:=O;simp only[g2];subst g6;exact⟨blk,k,cur,tid,fr,g7,j1,j2,.inl g4.2,S⟩
    inj:=λc d blk k k' hc T=>h.inj c d blk k k' (m c hc) (m d T)
    fresh:=λc blk k hc p=>by have:=h.fresh c blk k (m c hc) p;exact⟨this.1,Eo this.2 j.size⟩
    vz:=D
    sep:=λc cx blk k r hc p C=>by
     obtain⟨g,hc0,hro,ad4,K⟩:∃g,σ.mem c=ab g/\cx.ro=g.ro/\cx.row=g.row/\cx.buf=g.buf:=by
      rw[uD] at hc;cases hv:rC U y ns c with
      | none=>rw[hv] at hc;exact⟨cx,hc,rfl,rfl,rfl⟩
      | some v =>
        obtain⟨t,x,z,bx,aa1,k',g1,g2,g3,g4,g5,g6,g7,g8,O⟩:=A.val M hv
        grind
     by_cases L:γ.I blk r
     .have:=h.sep c g blk k r hc0 p L;exact⟨by rw[hro];exact this.1,λi e n Q=>this.2 (by rw[<-K];exact i) e n (by rw[<-ad4];exact Q)⟩
     .have W:=E blk r C L;have X:=(h.fresh c blk k (by rw[hc0];simp) p).2;omega }
def aa6{mem t v x val}(b:cM γ mem w v .val [val])(h:toD t v=ab x):∃c,bY w γ.I t x c/\val=cY t c:=by
 unfold toD at h;split at h
 .rename_i u y;obtain⟨q,f⟩:=Ty.lX h;subst q;subst f;exact eE.1 b
 .split at h
  .rename_i e;obtain rfl:=aQ h;obtain rfl:val=_:=by simpa [cM] using b
   exact⟨[.slice ah 0 0],.inl ⟨⟨ah,rfl⟩,rfl⟩,rfl⟩
  .cases h
 .cases h
def Ur{t v x}(h:toS t v=ab x):v=.data t x:=by
 unfold toS at h;split at h
 .obtain⟨q,b⟩:=Ty.lX h
  grind
 .cases h
def OE(hm:bM B γ σ.mem w):∀{ps A U vs s x u ns},nr γ σ.mem w vs s->tE σ ps A U vs=ab (x,u,ns) ->
  ∃e,Uq w γ.I ps A U x s e/\Refs γ σ.mem U u ns e/\yF w γ.I U u e:=by
 intro ps;induction ps with
 | nil =>
   intro A U vs s x u ns y h;cases A<;>first|(cases h;done)|skip
   cases U<;>first|(cases h;done)|skip
   cases vs with
   | cons v r=>cases h
   | nil =>
     obtain⟨rfl,q⟩:=cd (aQ h);obtain⟨rfl,rfl⟩:=cd q;have hx:s=[]:=by have:=y.1;simpa using this
     exact⟨[],⟨rfl,rfl,hx,rfl⟩,⟨rfl,rfl⟩,rfl⟩
 | cons p ps V =>
   intro A U vs s x u ns y h;cases p with
   | false =>
     cases A<;>first|(cases h;done)|skip
     cases vs with
     | nil=>cases h
     | cons v r =>
       simp only[tE] at h;split at h
       .rename_i x1 y1 u1 m C D;obtain⟨rfl,q⟩:=cd (aQ h);obtain⟨rfl,rfl⟩:=cd q;obtain⟨E,c,rfl,F,G⟩:=y.cons;obtain⟨e,H,J,K⟩:=V G D;obtain⟨cs,c1,c2⟩:=aa6 F C;exact⟨e,⟨cs,c,by rw[c2],c1,H⟩,J,K⟩
       .cases h
   | true =>
     cases U<;>first|(cases h;done)|skip
     cases vs with
     | nil=>cases h
     | cons v0 r =>
     cases v0<;>first|(cases h;done)|skip
     rename_i b L M;cases M with
     | cons _ _=>cases h
     | nil =>
     simp only[tE] at h;split at h
     case h_2=>cases h
     rename_i n O;cases f:(Nat.beq n.aU L&&!n.buf&&!n.lk&&!n.ro&&Nat.beq n.tid 0) with
     | false=>rw[f] at h;cases h
     | true =>
       rw[f] at h;simp only[gy,zP] at f;obtain⟨⟨⟨⟨t,j⟩,Q⟩,R⟩,S⟩:=f;split at h
       case h_2=>cases h
       rename_i x1 y1 u1 m C D;cases g:dA m b with
       | true=>rw[g] at h;cases h
       | false =>
         rw[g] at h;obtain⟨rfl,q⟩:=cd (aQ h);obtain⟨rfl,rfl⟩:=cd q;obtain⟨E,c,rfl,F,G⟩:=y.cons;obtain⟨e,H,J,K⟩:=V G D;obtain⟨i,k,W,z⟩:=bA O (iT t) F.2;have z:=BH z;simp only[eC] at z;have l:=Ur C;have o:=hm.boxes b n O;unfold fj at o;rw[j] at o;obtain⟨X,cap,T,tid,fr,Y,a2,a3,Z,a4⟩:=o;rw[W] at Y;obtain⟨rfl,rfl⟩:=cd (aQ Y);rw[l] at a4;exact⟨i::e,⟨i,c,e,by rw[z],rfl,H⟩,⟨b,m,i,e,n,k,rfl,rfl,(λhq=>by rw[LY.2 hq] at g;cases g),O,j,Q,⟨R,(iT S)⟩,l,W,J⟩,i,e,rfl,⟨T,tid,fr,a2,a3,a4⟩,K⟩
end
end Go.Ge
