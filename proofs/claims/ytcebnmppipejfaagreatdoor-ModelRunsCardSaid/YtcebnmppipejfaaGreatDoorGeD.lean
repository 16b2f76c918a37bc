import Derived.Test.YtcebnmppipejfaaGreatDoorGeC
import Derived.Great.BuildSlice
import Derived.Laws.IdiomStrings
import Derived.Laws.BytesArg
import Derived.Laws.MakeOwn
import Derived.Deep.AppendSrc
set_option linter.unusedVariables false
set_option linter.unusedSimpArgs false
set_option linter.unusedSectionVars false
set_option linter.defProp false
open Option renaming some->aa,none->af
namespace Go.Ge
open RowKit
def abD(e:Gh)(c:Nat):Gh:={ e with I:=λb o=>e.I b o\/b=c }
def bP.anA{B γ mem w}(h:bP B γ mem w) cs i :
  bP B (abD γ w.heap.size) mem (w.alloc<|.cells cs i)/\Ext B γ mem w (abD γ w.heap.size) mem (w.alloc<|.cells cs i):=by
 have hx:Ext B γ mem w (abD γ w.heap.size) mem (w.alloc<|.cells cs i) :=
  { below:=(yh.refl _ _).alloc h.base _
    I:=λ_ _ x=>.inl x
    s9:=λc o x=>by
     rcases x with x|x
     .grind
     .exact .inr (.inl<|by rw[x];exact h.base)
    cells:=λc o x=>dC (cZ w _ c<|h.xd c o x)
    boxes:=λb g hb=>⟨g,hb,b8 _,λ_=>⟨rfl,rfl,rfl⟩⟩ }
 refine⟨?_,hx⟩;have j:(w.alloc<|.cells cs i).heap.size=w.heap.size+1:=aW;exact
  { dk:=h.IP hx
    base:=by rw[j];exact Nat.le_succ_of_le h.base
    boxes:=λb g hb=>(h.boxes b g hb).keep hx rfl λc k f=>cZ w _ c (h.fresh b c k (by rw[hb];simp) f).2
    inj:=h.inj
    fresh:=λb c k hb f=>by have:=h.fresh b c k hb f;exact⟨this.1,ai⟩
    xd:=λc e hi=>by
     rcases hi with hi|hi
     .have:=h.xd c e hi;omega
     .omega
    sep:=λb g c k e hb f hi=>by
     rcases hi with hi|hi
     .exact h.sep b g c k e hb f hi
     .have:=(h.fresh b c k (by rw[hb];simp) f).2;omega }
def PU off:∀l k b,off+k+l.length<=b.size ->
  (l.zipIdx k).foldl (λc x=>c.setIfInBounds (off+x.2) x.1) b=(bk b.toList (off+k) l).toArray
 | [],k,b,h=>by simp[bk]
 | v::r,k,b,h=>by simp only[List.zipIdx_cons,Nb];rw[PU off r (k+1) _<|by simp at h⊢;omega];have e:=list_seg_step b.toList _ v r ai;simpa [bk,Ht] using e
def FH{place cells i off size v rest}(b:place i=aa (off,size))(e:v.cells.toList.length=size)
  (c:off+size<=cells.size):Instr.fill place cells ((i,v)::rest)=Instr.fill place (bk cells.toList off v.cells.toList).toArray rest:=by
 have f:(v.cells.size≠size||off+v.cells.size > cells.size)=false:=by grind
 simp only[Instr.fill,b];rw[<-Array.foldl_toList];have:=PU off v.cells.toList 0 cells ai
 grind
def abE{w I u y es}(m:bZ w I u y es):∀{t x f cs k o},
  bZ w I t x cs->kj t k=aa o->Pv t x k u y=aa f->bZ w I t f (bk cs o es)/\o+es.length<=cs.length:=by
 intro t;induction t with|pair a b v g =>(intro x f cs k o h c e;obtain⟨i,n,rfl,j,p⟩:=h;cases k with|zero =>simp only[kj,Ph] at c;subst c;simp only[Pv] at e;split at e;{(rename_i F A;obtain⟨q,C⟩:=Ty.lZ A;subst q;subst C;obtain rfl:=aU e;have r:es.length=i.length:=by rw[m.length,j.length]);refine⟨⟨es,n,?_,m,p⟩,by rw[gR];omega⟩;simp only[bk];grind};cases e|succ k =>simp only[kj] at c;cases l:kj b k with|none=>rw[l] at c;cases c|some s =>rw[l] at c;simp at c;simp only[Pv] at e;split at e;{rename_i z D;obtain rfl:=aU e;obtain⟨E,G⟩:=g p l D;have r:=j.length;refine⟨⟨i,bk n s es,?_,j,E⟩,by rw[gR];omega⟩;subst c;rw[<-r];simp only[bk];first|(rw[ahy,rO,Ht,<-Ap,Nc];simp[rO];done)|(rw[adZ s i.length];simp)};cases e)|_=>intro x f cs k o h c;cases k<;>simp[kj] at c
def Nq:∀{t k u},zz t k=aa u->∃o,kj t k=aa o:=by intro t;induction t with|pair a b e c =>(intro k u h;cases k with|zero=>exact⟨0,rfl⟩|succ k =>obtain⟨o,f⟩:=c h;simp only[kj];grind)|_=>intro k u h;cases k<;>cases h
section
variable {P:Program} {B:DW} {N:Nat} {γ:Gh} {σ bb:St} {a:Act} {w:World} {d:Option Nat} {cx:Ctx}
def KM{place t}(m:∀k u o,zz t k=aa u->kj t k=aa o->place k=aa (o,u.size)) :
  ∀{parts x l cells σ bb γ},dz B N γ σ a w->bZ w γ.I t x cells.toList->gU σ t x parts=aa (l,bb) ->∃b bM,Instr.fill place cells (parts.map λp=>(p.1,a.eval p.2))=aa b/\dz B N bM bb a w/\Ext B γ σ.mem w bM bb.mem w/\bZ w bM.I t l b.toList:=by
 intro parts;induction parts with|nil =>(intro x l cells σ bb γ h n c;obtain⟨rfl,rfl⟩:=b9 (aU c);exact⟨cells,γ,rfl,h,Ext.refl _ _ _ _,n⟩)|cons p r E =>obtain⟨k,o⟩:=p;intro x l cells σ bb γ h n c;simp only[gU] at c;split at c;{rename_i u A;split at c;{rename_i y b4 F;split at c;{(rename_i R q;obtain⟨G,H,s,C,v,J⟩:=oD h (h.dm o) F;obtain f:a.eval o=_:=by simpa using J);(have g:(a.eval o).cells.toList=C:=by rw[f];exact vb v);obtain⟨i,e⟩:=Nq A;obtain⟨K,D⟩:=abE v (bZ.mono s.I s.cells n) e q;have j:=v.length;obtain⟨b,z,L,M,O,Q⟩:=E (cells:=(bk cells.toList i C).toArray) H (by simpa using K) c;refine⟨b,z,?_,M,s.trans O,Q⟩;simp;rw[FH (m k u i A e) (by rw[g];exact j)<|by rw[j] at D;simpa using D,g];exact L};cases c};cases c};cases c
def Du{n}{e:Ty}{place}(t:∀k,place k=aa (k*e.size,e.size)) :
  ∀{parts} {l s:List e.den} {cells σ bb γ},dz B N γ σ a w->bZ w γ.I (.arr n e) l cells.toList->fJ σ e l parts=aa (s,bb) ->∃b bM,Instr.fill place cells (parts.map λp=>(p.1,a.eval p.2))=aa b/\dz B N bM bb a w/\Ext B γ σ.mem w bM bb.mem w/\bZ w bM.I (.arr n e) s b.toList:=by
 intro parts;induction parts with|nil =>(intro l s cells σ bb γ h u c;obtain⟨rfl,rfl⟩:=b9 (aU c);exact⟨cells,γ,rfl,h,Ext.refl _ _ _ _,u⟩)|cons p r J =>obtain⟨k,o⟩:=p;intro l s cells σ bb γ h u c;simp only[fJ] at c;split at c;{rename_i y b4 K;cases f:Nat.blt k l.length with|false=>rw[f] at c;cases c|true =>(rw[f] at c;have F:k<l.length:=by simpa using f);(obtain⟨v,L,x,z,A,M⟩:=oD h (h.dm o) K;obtain j:a.eval o=_:=by simpa using M);(have m:(a.eval o).cells.toList=z:=by rw[j];exact vb A);(obtain⟨G,C,O⟩:=bZ.mono x.I x.cells u;have D:l.length=n:=G;have g:=A.length;have H:(k+1)*e.size<=n*e.size:=hL _ ai;rw[Dq] at H;have i:k*e.size+z.length<=cells.toList.length:=by rw[g,C];exact H);have q:bZ w v.I (.arr n e) _ _ :=⟨(@List.length_set _ l _ _).trans G,by rw[bS i];exact C,PI D (by rw[C];apply b8) O ai A⟩;obtain⟨b,E,Q,R,S,T⟩:=J (cells:=(bk cells.toList _ z).toArray) L (by simpa using q) c;refine⟨b,E,?_,R,x.trans S,T⟩;simp;rw[FH (t k) (by rw[m];exact g)<|by rw[g] at i;simpa using i,m];exact Q};cases c
def sM.places{t}:∀{off e},sM P t off e->∃c,e.mapM (λf=>(P.info? f.type).map λi=>(f.offset,i.size))=aa c /\
  ∀k u o,zz t k=aa u->kj t k=aa o->c[k]?=aa (off+o,u.size):=by
 induction t with|pair a b m l =>(intro off e h;obtain⟨f,r,rfl,y,A,n,C,p⟩:=h.cons;obtain⟨q,s,D⟩:=l p;obtain⟨i,z,v,E,_⟩:=n.info;refine⟨(f.offset,i.size)::q,by simp[v,s],λk u o g j=>?_⟩;cases k with|zero =>simp only[zz,kj] at g j;grind|succ k =>simp only[zz,kj] at g j;cases x:kj b k with|none=>rw[x] at j;cases j|some F =>grind)|unit =>(intro off e h;cases e with|nil=>exact⟨[],rfl,λk u o g=>by cases k<;>cases g⟩|cons f r=>simp[sM,eM] at h)|_=>intro off e h;cases e<;>simp[sM,eM] at h
def Ml{mem}:∀{c v},va c=aa v->cK γ mem w v .cells (PF c):=by intro c;induction c with|nil=>(intro v h;obtain rfl:=aU h;rfl)|cons f r g =>intro v h;cases f with|dat t =>simp only[va] at h;split at h;{rename_i u b;obtain rfl:=aU h;exact⟨_,_,rfl,po _ _ t,g b⟩};cases h|buf e i =>simp only[va] at h;split at h;{rename_i u b;obtain rfl:=aU h;exact⟨[.slice af 0 0],_,rfl,rfl,g b⟩};cases h|one =>simp only[va] at h;split at h;{rename_i u b;obtain rfl:=aU h;exact⟨[.pointer af],_,rfl,rfl,g b⟩};cases h|self=>cases h
def El{place q}(s:∀k o f,Cd q k=aa o->q[k]?=aa f->place k=aa (o,f.size))(h:dz B N γ σ a w) :
  ∀{parts v m cells},cK γ σ.mem w v .cells cells.toList->sT σ q v parts=aa m ->∃b,Instr.fill place cells (parts.map λp=>(p.1,a.eval p.2))=aa b/\cK γ σ.mem w m .cells b.toList:=by
 intro parts;induction parts with|nil=>(intro v m cells n c;obtain rfl:=aU c;exact⟨cells,rfl,n⟩)|cons p r G =>obtain⟨k,x⟩:=p;intro v m cells n c;simp only[sT] at c;split at c;(case h_2=>cases c);rename_i o t O H f E I A;cases g:Nat.beq o H&&Nat.beq t.size f.size with|false=>rw[g] at c;cases c|true =>rw[g] at c;simp only[gC] at g;obtain rfl:=iN g.1;have i:=iN g.2;split at c;(case h_2=>cases c);rename_i y j;split at c;(case h_2=>cases c);rename_i Q C;have l:=Oz j ((h.dm x).pq (λu e=>by rw[e] at j;cases j) λe=>by rw[e] at j;cases j);obtain⟨J,_⟩:=KL n E;have D:o+t.size<=cells.toList.length:=J;have F:=l.length;obtain⟨b,K,L⟩:=G (cells:=(bk cells.toList o (a.eval x).cells.toList).toArray) (by simpa using(PH n E (λz M=>by obtain rfl:=aU M;exact l) C F)) c;refine⟨b,?_,L⟩;simp;rw[FH (s k o f I A) (by rw[F];exact i)<|by rw[<-i];simpa using D];exact K
def Nr(n:fM P cx){t:TypeId}{e l p q}{parts:Array (Nat×Operand)}(h:dz B N γ σ a w)(r:∀k,d=aa k->k<N)(s:find cx.uu t=aa e)
  (g:va e=aa l) (u:sT σ e l parts.toList=aa (.mix p q)) : pr P B N γ σ a w d (Instr.build t<|parts.map λ(i,x)=>(i,a.eval x)) (σ.bF d<|.mix p q):=by
 have m:=n.uu _ _ s;simp only[PG,gC] at m;obtain⟨j,v⟩:=m;obtain⟨i,z,J,K,L,y⟩:=km v;split at j
 case h_2=>cases j
 obtain⟨M,O,A⟩:=IU j;obtain⟨b,Q,C,D,E,F,G⟩:=El (λk o f H I=>by have:=A k o f H I;simpa using this) h (by rw[y];exact Ml g) u
 have c:(Instr.build t<|parts.map λ(i,x)=>(i,a.eval x)).run P w=.ok (.agg b) w:=by
  refine run_build w t _ _ ?_;unfold Program.built;simp_all
 exact bU h r c ⟨C,D,by rw[<-E],F,G⟩
def KN(n:fM P cx){t:TypeId}{e l u}{parts:Array (Nat×Operand)}(h:dz B N γ σ a w)(p:∀k,d=aa k->k<N)(q:find cx.uu t=aa e)
  (g:va e=aa l) (r:sT σ e l parts.toList=aa (.data .unit u)) : pr P B N γ σ a w d (Instr.build t<|parts.map λ(i,x)=>(i,a.eval x)) (σ.bF d<|.data .unit ()):=by
 have m:=n.uu _ _ q;simp only[PG,gC] at m;obtain⟨j,s⟩:=m;obtain⟨i,z,E,F,G,v⟩:=km s;split at j
 case h_2=>cases j
 obtain⟨H,I,y⟩:=IU j;obtain⟨b,J,A⟩:=El (λk o f C D=>by have:=y k o f C D;simpa using this) h (by rw[v];exact Ml g) r
 have c:(Instr.build t<|parts.map λ(i,x)=>(i,a.eval x)).run P w=.ok (.agg b) w:=by
  refine run_build w t _ _ ?_;unfold Program.built;simp_all
 exact bU h p c ⟨[],rfl,by rw[show b=#[] from Array.ext' A];rfl⟩
def HA(f:fM P cx){t:TypeId}{u v}{parts:Array (Nat×Operand)}{x}(h:dz B N γ σ a w)(g:∀k,d=aa k->k<N)(j:find cx.T t=aa (.pair u v))
  (l:gU σ (.pair u v) (Ty.pair u v).zero parts.toList=aa (x,bb)) : pr P B N γ σ a w d (Instr.build t<|parts.map λ(i,x)=>(i,a.eval x)) (bb.bF d<|.data (.pair u v) x):=by
 have e:=f.T _ _ j;obtain⟨C,D,m,_⟩:=e.pair;obtain⟨E,F,n⟩:=m.places;obtain⟨i,z,G,H,J,p⟩:=e.info;obtain⟨b,bM,K,q,r,s⟩:=KM (λk u o y A=>by have:=n k u o y A;simpa using this) h (by rw[p];exact po w γ.I _) l
 have c:(Instr.build t<|parts.map λ(i,x)=>(i,a.eval x)).run P w=.ok (.agg b) w:=by
  refine run_build w t _ _ ?_;unfold Program.built;simp_all
 exact⟨_,_,bM,c,q.yu g ⟨_,s,rfl⟩,by cases d<;>exact r⟩
def I4(j:fM P cx){t:TypeId}{n e}{parts:Array (Nat×Operand)}{l}(h:dz B N γ σ a w)(m:∀k,d=aa k->k<N)(o:find cx.T t=aa (.arr n e))
  (p:fJ σ e (List.replicate n e.zero) parts.toList=aa (l,bb)) : pr P B N γ σ a w d (Instr.build t<|parts.map λ(i,x)=>(i,a.eval x)) (bb.bF d<|.data (.arr n e) l):=by
 have f:=j.T _ _ o;obtain⟨q,C,r,D⟩:=f.arr;obtain⟨g,E,F,s,G,H⟩:=r.info;obtain⟨i,z,J,K,L,u⟩:=f.info;obtain⟨b,bM,M,v,y,A⟩:=Du (place:=λk=>aa (k*g.size,g.size)) (λk=>by rw[s]) h (by rw[u];exact po w γ.I _) p
 have c:(Instr.build t<|parts.map λ(i,x)=>(i,a.eval x)).run P w=.ok (.agg b) w:=by
  refine run_build w t _ _ ?_;unfold Program.built;simp_all
 exact⟨_,_,bM,c,v.yu m ⟨_,A,rfl⟩,by cases d<;>exact y⟩
def yx{e}{z:Value}(h:z.cells.toList=gy e)(f:0<e.size) n:(madeCells z.cells<|n*e.size).toList=gy (.arr n e):=by
 have i:z.cells.size=e.size:=by rw[<-en e,<-h];simp
 apply Pg;intro j;have hlen:(gy<|.arr n e).length=n*e.size:=by rw[en];rfl
 rcases xy j (n*e.size) with b|b
 .have k:(madeCells z.cells<|n*e.size).toList[j]?=aa (z.cells[j % z.cells.size]!):=by simp[madeCells,b]
  have g:=fg (gy e) n _ (by rw[adJ f];exact b);rw[en] at g;have c:j / e.size*e.size+j % e.size=j:=by rw[Yk];exact Yg j e.size
  have l:(gy<|.arr n e)[j]?=(gy e)[j % e.size]?:=by (conv=>rhs;rw[<-g]);rw[kh,aN (D7 j f),xw,c];rfl
  grind
 rw[SK<|by simp[madeCells];omega,SK ai]
def V0{w I}{e:Ty}{n}{l:List e.den}{cells t blk k}(h:bZ w I (.arr n e) l cells.toList)(m:w.heap[blk]?=aa (.cells cells t k))
  (p:∀o,I blk o) (q:n<=maxLen):bZ w I (.slice e) l [.slice (aa ⟨blk,0,af⟩) n n]:=by
 obtain⟨r,v,s⟩:=h;have b:l.length=n:=r;refine .inr ⟨blk,0,n,by rw[<-b],by rw[<-b];exact b8 _,q,λi x u=>?_⟩;have f:l[i]?=aa x:=u;have g:=s i x f;refine⟨_,g.length,λj c y=>⟨?_,p _⟩,g⟩;rw[cell_of_heap m]
 grind
def Em(v:fM P cx){t:TypeId}{n e}{parts:Array (Nat×Operand)}{l}(h:dz B N γ σ a w)(y:find cx.T t=aa (.slice e))
  (J:n*e.size<=65536) (z:fJ σ e (List.replicate n e.zero) parts.toList=aa (l,bb)) : ∃b bM c,0<e.size/\dz B N bM bb a w/\Ext B γ σ.mem w bM bb.mem w/\bZ w bM.I (.arr n e) l b.toList /\(Instr.buildSlice t n<|parts.map λ(i,x)=>(i,a.eval x)).run P w=.ok (.slice (aa ⟨w.heap.size,0,af⟩) n n) (w.alloc<|.cells b c):=by
 obtain⟨c,q,A,K,r⟩:=(v.T _ _ y).slice;obtain⟨g,j,s,m,C,D⟩:=A.info;obtain⟨b,bM,u,E,F,G⟩:=Du (place:=λk=>aa (k*g.size,g.size)) (λk=>by rw[m]) h (by rw[yx D r];exact po w γ.I _) z
 refine⟨b,bM,c,r,E,F,G,?_⟩;have f:Instr.fill (λi=>aa (i*g.size,g.size)) (madeCells j.cells<|n*g.size) (parts.map λ(i,x)=>(i,a.eval x)).toList=aa b:=by rw[m] at u⊢;simpa using u
 by_cases o:n*g.size=0
 .have p:madeCells j.cells (n*g.size)=#[]:=by rw[o];simp[madeCells]
  rw[p] at f;simp at f;simp[Instr.buildSlice,run_underlying q,Go.sizeOf,typeInfo,s,o];have H:(Array.map (λx=>(default:Value))<|Array.range 0)=#[]:=by simp[Array.range]
  rw[H,f];rfl
 .exact run_buildSlice w t c n _ b g j q s C (by rw[m];omega) o f
def KO(p:fM P cx){t:TypeId}{n e}{parts:Array (Nat×Operand)}{l}(h:dz B N γ σ a w)(q:∀k,d=aa k->k<N)(r:find cx.T t=aa (.slice e))
  (g:Nat.ble (n*e.size) 65536=true) (s:fJ σ e (List.replicate n e.zero) parts.toList=aa (l,bb)) : pr P B N γ σ a w d (Instr.buildSlice t n<|parts.map λ(i,x)=>(i,a.eval x)) (bb.bF d<|.data (.slice e) l):=by
 have g:=M7 g;obtain⟨b,bM,j,u,m,v,y,c⟩:=Em p h r g s;obtain⟨m1,f⟩:=m.ok.anA b j;refine⟨_,_,_,c,m.bF f m1 q ⟨[.slice _ n n],?_,rfl⟩,by cases d<;>exact v.trans f⟩;refine V0 (bZ.mono f.I f.cells y) (heap_alloc_new w _) (λo=>.inr rfl) ?_;have:n*1<=n*e.size:=Nat.mul_le_mul_left _ u;have:65536<=maxLen:=aI;omega
def PV(u:fM P cx){t:TypeId}{n e}{parts:Array (Nat×Operand)}{l nb k b4}(h:dz B N γ σ a w)(v:k<N)(y:find cx.T t=aa (.slice e))
  (j:Nat.ble (n*e.size) 65536=true) (z:fJ σ e (List.replicate n e.zero) parts.toList=aa (l,b4)) (A:(b4.bH (nb+k) (.data (.slice e) l) 0 true λb σ=>.ret (σ.put k<|.whole (nb+k) b)).run=aa bb) : pr P B N γ σ a w (aa k) (Instr.buildSlice t n<|parts.map λ(i,x)=>(i,a.eval x)) bb:=by
 have j:=M7 j;obtain⟨g,bM,C,q,m,D,E,c⟩:=Em u h y j z;obtain⟨b,f,o⟩:=ef A;obtain rfl:=aU o;obtain⟨r,F,G⟩:=E;have p:n<=maxLen:=by have:n*1<=n*e.size:=Nat.mul_le_mul_left _ q;have:65536<=maxLen:=aI;omega
 obtain⟨H,s⟩:=m.ok.PJ (w':=w.alloc _) f q ((yh.refl _ _).alloc m.ok.base _) (cZ w _) (heap_alloc_new w _) (yv _ _) (.inl rfl) (GI r) p (by simpa using F) G
 refine⟨_,_,_,c,m.step s H v ?_,D.trans s⟩;exact⟨⟨_,rfl,rfl⟩,gI (bK _ _) rfl ⟨e,n,rfl,by rw[<-r];rfl,.inr ⟨w.heap.size,n,by simp[bT],rfl⟩⟩⟩
def V1{place}(z:∀k,place k=aa (k,1))(h:dz B N γ σ a w) :
  ∀{parts k v cells},cells.size=k+parts.length->Ec σ k parts=aa v ->∃g,Instr.fill place cells (parts.map λp=>(p.1,a.eval p.2))=aa (cells.toList.take k++g).toArray/\cK γ σ.mem w v .cells g:=by
 intro parts;induction parts with
 | nil =>intro k v cells A l;obtain rfl:=aU l;refine⟨[],?_,rfl⟩;have:cells.toList.take k=cells.toList:=Is (by simp[A]);rw[this];simp[Instr.fill]
 | cons p r F =>
   obtain⟨j,x⟩:=p;intro k v cells A l;simp only[Ec] at l;cases C:Nat.beq j k with
   | false=>rw[C] at l;cases l
   | true =>
     rw[C] at l;obtain rfl:=iN C;simp at A;have key:∀u o c,(∀t,u≠.D0 t)->u≠.undef->dm σ x=u->Ec σ (j+1) r=aa o->v=.mix u o->(a.eval x).cells.toList=[c] ->
       ∃g,Instr.fill place cells (((j,x)::r).map λp=>(p.1,a.eval p.2))=aa (cells.toList.take j++g).toArray/\cK γ σ.mem w v .cells g:=by
      intro u o c G H n i D m;have hx:=h.dm x;rw[n] at hx;have s:=hx.pq G (λe=>absurd e H);have hlen:(bk cells.toList j [c]).length=cells.toList.length:=bS dW;obtain⟨g,M,I⟩:=F (cells:=(bk cells.toList j [c]).toArray) (by simp only[Pj,hlen,X8];omega) i;have O:(bk cells.toList j [c]).take (j+1)=cells.toList.take j++[c]:=by (have:(cells.toList.take j).length=j:=by rw[cY,X8];omega);simp only[bk];grind
      refine⟨c::g,?_,?_⟩
      .simp;rw[FH (z j) (by rw[m];rfl) ai];grind
      .rw[D];exact⟨[c],g,rfl,by rw[m] at s;exact s,I⟩
     split at l
     .rename_i o n i;obtain rfl:=aU l;have hx:=h.dm x;rw[n] at hx;obtain hx:a.eval x=_:=by simpa [cK] using hx
      exact key .vM o _ Ak ch n i rfl (by rw[hx];rfl)
     .rename_i b J q o n i;obtain rfl:=aU l;have hx:=h.dm x;rw[n] at hx;obtain⟨⟨y,K,E⟩,_⟩:=hx;obtain rfl:a.eval x=y:=by simpa using K
      refine key _ o (a.eval x) Ak ch n i rfl ?_;generalize a.eval x=y at E⊢;cases y<;>first|rfl|(simp[Value.oneCell'] at E)
     .rename_i f c o n i;obtain rfl:=aU l;have hx:=h.dm x;rw[n] at hx;obtain⟨L,hx,_,_⟩:=hx;obtain hx:a.eval x=_:=by simpa using hx
      exact key _ o _ Ak ch n i rfl (by rw[hx];rfl)
     .cases l
def SS(q:fM P cx){t nb n}{parts:Array (Nat×Operand)}(h:dz B N γ σ a w)(C:∀k,d=aa k->k<N)
  (g:(FD cx nb d t n parts.toList σ).run=aa bb):pr P B N γ σ a w d (Instr.buildSlice t n<|parts.map λ(i,x)=>(i,a.eval x)) bb:=by
 unfold FD at g;split at g
 case h_2=>cases g
 rename_i k e v D E;obtain⟨r,m⟩:=aD g;simp only[gC] at r;obtain⟨⟨F,G⟩,o⟩:=r;obtain rfl:=iN F;have H:0<parts.toList.length:=by simpa using G
 have s:parts.toList.length<=64:=M7 o;obtain⟨I,J⟩:=Ck q D;obtain⟨_,K,z,L,_⟩:=q.sL _ J;obtain⟨b,u,l⟩:∃b,P.info? e=aa b/\b.size=1:=by
  have:=K w;cases hi:P.info? e with
  | none=>simp[Go.sizeOf,typeInfo,hi] at this
  | some b=>simp[Go.sizeOf,typeInfo,hi] at this;exact⟨b,rfl,this⟩
 obtain⟨c,M⟩:∃c,b.zero=aa c:=by
  have:=L w;cases hi:b.zero with
  | none=>simp[zeroValue,typeInfo,u,hi] at this
  | some c=>exact⟨c,rfl⟩
 obtain⟨O,f,p⟩:=ef m;obtain rfl:=aU p;obtain⟨y,Q,R⟩:=V1 (place:=λi=>aa (i*b.size,b.size)) (λj=>by rw[l];simp) h (cells:=(Array.range<|parts.toList.length*b.size).map (c.cells[· % c.cells.size]!)) (by simp[l]) E;obtain⟨m1,A⟩:=h.ok.newVar f e (.inl rfl) (by simpa using R);refine⟨_,_,_,(run_buildSlice w t e parts.toList.length _ _ b c I u M (by rw[l];omega) (by rw[l];omega)<|by rw[ahN];exact Q),h.step A m1 (C k rfl) ?_,A⟩;refine⟨⟨_,rfl,rfl⟩,gI (bK _ _) rfl ⟨aW,w.heap.size,0,by simp[bT],ai,ai,ai,_,_,rfl,aW,.inr ?_⟩⟩;simp[er]
def KP(n:fM P cx){t:TypeId}{e nb k}(h:dz B N γ σ a w)(o:k<N)(p:find cx.T t=aa (.slice e))
  (q:(σ.bH (nb+k) (.data (.slice e) ([]:List e.den)) 0 true λb σ=>.ret (σ.put k<|.whole (nb+k) b)).run=aa bb) : pr P B N γ σ a w (aa k) (Instr.buildSlice t 0 #[]) bb:=by
 obtain⟨c,r,s,A,u⟩:=(n.T _ _ p).slice;obtain⟨C,D,v,E,F,G⟩:=s.info;obtain⟨b,f,j⟩:=ef q;obtain rfl:=aU j;have g:(Instr.buildSlice t 0 #[]).run P w=.ok (.slice (aa ⟨w.heap.size,0,af⟩) 0 0) (w.alloc<|.cells #[] c):=by simp[Instr.buildSlice,run_underlying r,Go.sizeOf,typeInfo,v,newRow,Instr.fill];grind
 obtain⟨x,m⟩:=h.ok.PJ (w':=w.alloc (.cells #[] c)) (l:=([])) f u ((yh.refl _ _).alloc h.ok.base _) (cZ w _) (heap_alloc_new w _) (yv _ _) (.inl rfl) (b8 _) (qh _) aW (λi z y=>by cases y)
 refine⟨_,_,_,g,h.step m x o ?_,m⟩;exact⟨⟨_,rfl,rfl⟩,gI (bK _ _) rfl ⟨e,0,rfl,rfl,.inr ⟨w.heap.size,0,by simp[bT],rfl⟩⟩⟩
end
end Go.Ge
namespace Go.Ge
open RowKit
section
variable {P:Program} {B:DW} {N:Nat} {γ:Gh} {σ bb:St} {a:Act} {w w':World} {d:Option Nat} {cx:Ctx}
def HB:4294967296<=maxLen:=aI
def I5{n:Nat}(h:fits n=true):n<=4294967296:=by simp[fits] at h;omega
def En{b e}(c:KJ P b=true)(f:P.info? b=aa e):e.bytes<=32768:=by unfold KJ at c;rw[f] at c;exact M7 c
def Bn{mem b cap blk bx e n}(c:bx.buf=true)(f:bx.row=aa (e,n)) :  cK (bT γ b<|some (blk,cap)) (dh mem b bx) w' (.whole b bx.aY) .val [.slice (aa ⟨blk,0,af⟩) n cap] :=⟨⟨_,rfl,rfl⟩,gI (bK _ _) rfl ⟨e,n,c,f,.inr ⟨blk,cap,by simp[bT],rfl⟩⟩⟩
def Nt(I:fM P cx){t:TypeId}{nb k e x y A C}{l c:Int}(h:dz B N γ σ a w)(J:k<N)(K:find cx.T t=aa (.slice e))
  (L:dm σ x=.data (.int A) l) (M:dm σ y=.data (.int C) c) (u:inside 0 l c=true) (O:fits c=true) (Q:(σ.bH (nb+k) (.data (.slice e)<|oq l e.zero) 0 true λaY σ=>.ret (σ.put k<|.whole (nb+k) aY)).run=aa bb) : pr P B N γ σ a w (aa k) (Instr.makeSlice t (a.eval x)<|a.eval y) bb:=by
 obtain⟨aY,p,v⟩:=ef Q;obtain rfl:=aU v;obtain⟨_,R,S⟩:=jQ u;have D:c<=4294967296:=by simpa [fits] using O
 have q:=h.dm x;have r:=h.dm y;rw[L] at q;rw[M] at r;obtain⟨U,_⟩:=wI q;obtain⟨V,_⟩:=wI r;obtain⟨m,W,X,Y,E⟩:=(I.T _ _ K).slice;obtain⟨o,s,F,G,Z,e4⟩:=X.info;have hb:=En Y F;have f:o.bytes*c<=281474976710656:=by have:o.bytes*c<=32768*c:=Int.mul_le_mul_of_nonneg_right ai ai;omega
 have g:(madeCells s.cells<|c.toNat*o.size).toList=gy (.arr c.toNat e):=by rw[G];exact yx e4 E _
 have hlen:(oq l e.zero).length=l.toNat:=by simp[oq]
 obtain⟨m1,H⟩:=h.ok.PJ (w':=w.alloc (.cells (madeCells s.cells<|c.toNat*o.size) m)) (l:=oq l e.zero) (cap:=c.toNat) p E
  ((yh.refl _ _).alloc h.ok.base _) (cZ w _) (heap_alloc_new w _) (yv _ _) (.inl rfl) ai (by have:=HB;omega)
  (by rw[G];apply size_madeCells) (λi z hz=>by
   rw[g];have j:(List.replicate l.toNat e.zero)[i]?=aa z:=hz;rw[amZ] at j;split at j
   .rename_i hi;obtain rfl:e.zero=z:=by simpa using j
    have:=fg (gy e) c.toNat i ai;rw[en] at this;rw[show gy _=(List.replicate c.toNat _).flatten from rfl,this];apply po
   .cases j)
 refine⟨_,_,_,by rw[U,V];exact(run_make w t m o s W F Z A C l c R S f ai),h.step H m1 J ?_,H⟩;have:=Bn (γ:=γ) (w':=w.alloc (.cells (madeCells s.cells<|c.toNat*o.size) m)) (mem:=σ.mem) (b:=nb+k) (cap:=c.toNat) (blk:=w.heap.size)
  (bx:={ val:=.data (.slice e) _,tid:=0,buf:=true,ro:=false,lk:=false,aY }) (n:=l.toNat) rfl (by rw[<-hlen];rfl)
 exact this
def V2(b:UInt8):IntKind.u8.min<=((b.toNat:Int))/\((b.toNat:Int))<=IntKind.u8.max:=u8_in b
def afo{I}{l:List Int}{v src dst e}(h:Ej w I (.int .u8) l v)(j:P.underlying src=aa (.slice e))(k:P.underlying e=aa (.int .u8))(m:P.underlying dst=aa .string) :
  (convert src dst v).run P w=.ok (.string ⟨(br l).toArray⟩) w/\l.length<=maxLen:=by
 rcases h with ⟨rfl,g,b,n,q,o⟩|⟨c,f,b,n,q,o,r⟩
 .rcases o with rfl|⟨c,f,rfl⟩
  {rw[n];refine⟨?_,qh _⟩;cases g with|none=>exact run_convert_bytes_nil w src e j k 0 0 dst m|some u =>rw[run_convert_bytes_string w src dst e _ _ _ j k m];simp[ br];rfl};rw[n];refine⟨?_,qh _⟩;exact run_convert_bytes_arg w src e j k c f 0 b [] rfl (λi p=>ai) dst m
 .rw[n];refine⟨?_,gS q o⟩;refine run_convert_bytes_arg w src e j k c f l.length b l rfl (λi p=>?_) dst m;obtain⟨x,y,s,t⟩:=r i l[i] (gQ p);obtain⟨rfl,_⟩:=t;have:=s 0 _ rfl;simp only[Ty.size,Pq,IA] at this;rw[this];simp[ gQ p]
def KQ l:(br l).length=l.length:=by simp[br]
def bytesRow_at{s:bj}{cap i b}(c:s[i]?=aa b):((bytesRow ⟨s.toArray⟩ cap).toList.drop<|i*1).take 1=[.int .u8 (b.toNat:Int)]:=by
 apply Pg;intro j;rw[kh];split
 {rename_i e;obtain rfl:j=0:=ai;rw[xw];simp only[bytesRow,adM];rw[X3<|by simpa using((ga.1 c).1)];simp[c]};rename_i e;rw[SK dW]
def SU s {cap} (h:s.size<=cap):(bytesRow s cap).size=cap:=by simp only[bytesRow,Array.size_append,Array.size_map,Array.size_replicate];have:s.data.size=s.size:=rfl;omega
def PW(y:fM P cx){nb k}{j l:TypeId}{x}{s:bj}(h:dz B N γ σ a w)(D:k<N)(E:find cx.T j=aa .str)(q:find cx.T l=aa (.slice<|.int .u8))
  (F:dm σ x=.data .str s) (G:(σ.bH (nb+k) (.data (.slice<|.int .u8)<|aB s) 0 true λaY σ=>.ret (σ.put k<|.whole (nb+k) aY)).run=aa bb) : pr P B N γ σ a w (aa k) (convert j l<|a.eval x) bb:=by
 have hv:=h.dm x;rw[F] at hv;obtain⟨H,I⟩:=Av hv;obtain⟨aY,m,r⟩:=ef G;obtain rfl:=aU r;obtain⟨c,J,K,O,Q⟩:=(y.T _ _ q).slice;have g:=run_bytes_of_string w j l c ⟨s.toArray⟩ (y.T _ _ E).str J K.int;have t:(⟨s.toArray⟩:ByteArray).size=s.length:=by simp[ByteArray.size]
 rw[t] at g;have p:=grownCap_ge w s.length 0 c;have u:=grownCap_le_maxLen w s.length 0 c I;have hlen:(aB s).length=s.length:=by simp[aB]
 generalize A:grownCap w s.length 0 c=cap at *;obtain⟨m1,C⟩:=h.ok.PJ (e:=.int .u8)
  (w':=w.drew.alloc (.cells (bytesRow ⟨s.toArray⟩ cap) c ((bytesRow ⟨s.toArray⟩ cap).size,(bytesRow ⟨s.toArray⟩ cap).size+1))) m aI ((yh.refl B w).drew.alloc h.ok.base _) (cZ w.drew _) (heap_alloc_new w.drew _) ⟨λo R S=>ai,λL=>by cases L⟩ (.inl rfl) (gS (GI hlen) p) u
  (by rw[(SU ⟨s.toArray⟩ p)];exact(Pq _).symm) (λi z M=>by
   have f:(aB s)[i]?=aa z:=M;simp only[aB,B7] at f;cases v:s[i]? with
   | none=>rw[v] at f;cases f
   | some b =>rw[v] at f;obtain rfl:_=z:=aU f;exact⟨bytesRow_at v,V2 b⟩)
 refine⟨_,_,_,by rw[H];exact g,h.step C m1 D ?_,C⟩;have:=Bn (γ:=γ) (mem:=σ.mem) (b:=nb+k) (cap:=cap) (blk:=w.heap.size)
  (bx:={ val:=.data (.slice<|.int .u8) _,tid:=0,buf:=true,ro:=false,lk:=false,aY }) (n:=s.length)
  (w':=w.drew.alloc (.cells (bytesRow ⟨s.toArray⟩ cap) c ((bytesRow ⟨s.toArray⟩ cap).size,(bytesRow ⟨s.toArray⟩ cap).size+1))) rfl (by rw[<-hlen];rfl)
 exact this
def I6(e:fM P cx){nb src dst x}(h:dz B N γ σ a w)(i:∀k,d=aa k->k<N)(c:(iz cx nb d src dst (dm σ x) σ).run=aa bb) :
  pr P B N γ σ a w d (convert src dst<|a.eval x) bb:=by
 have hv:=h.dm x;unfold iz at c;split at c
 .rename_i v k y n f b g;rw[g] at hv;obtain⟨j,_⟩:=wI hv;obtain rfl:=aU c;refine bU h i (x:=.int k (k.wrap n)) ?_ (mkInt<|fN _ _);rw[j];simp[convert,run_underlying (e.T _ _ f).int,run_underlying (e.T _ _ b).int,Conv.intToInt]
 .rename_i s f b g;rw[g] at hv;obtain rfl:=aU c;obtain⟨j,o⟩:=Av hv;refine bU h i ?_ hv;rw[j];simp[convert,run_underlying (e.T _ _ f).str,run_underlying (e.T _ _ b).str]
 .rename_i s f b g;split at c
  .rename_i k;obtain⟨z,m⟩:=cL c;exact PW e h (i k rfl) f b g m
  .exact absurd c ch
 .rename_i A f b;split at c
  .rename_i l o;obtain rfl:=aU c;obtain⟨p,q,r,C,D⟩:=(e.T _ _ f).slice;obtain⟨t,u⟩:=afo (uM h.ok hv o) q r.int (e.T _ _ b).str;refine bU h i t ⟨_,⟨rfl,?_⟩,rfl⟩;exact gS (GI<|KQ l) u
  .exact absurd c ch
 .exact absurd c ch
end
end Go.Ge
namespace Go.Ge
open RowKit
section
variable {P:Program} {B:DW} {N:Nat} {γ:Gh} {σ bb:St} {a:Act} {w w':World} {d:Option Nat} {cx:Ctx}
def fj(w:World)(I:Nat->Nat->Prop)(e:Ty)(l:List e.den)(b:List Value):Prop :=∀(i:Nat) (x:e.den),l[i]?=aa x->bZ w I e x ((b.drop<|i*e.size).take e.size)
def pt{c:Type}{a b:List c}{i s}(h:(i+1)*s<=a.length):((a++b).drop<|i*s).take s=(a.drop<|i*s).take s:=by grind
def fj.append{I e l m c1 c2 rest}(g:fj w I e l c1)(h:fj w I e m c2)(c:c1.length=l.length*e.size)(j:c2.length=m.length*e.size) :
  fj w I e (l++m) (c1++c2++rest):=by
 intro i x b;rw[VM] at b;split at b
 .rename_i f;have k:(i+1)*e.size<=l.length*e.size:=hL _ f;rw[rO,pt ai];exact g i x b
 .rename_i f;have k:(i-l.length+1)*e.size<=m.length*e.size:=hL _ ((ga.1 b).1);have n:i*e.size=c1.length+(i-l.length)*e.size:=by rw[c,<-iO];congr 1;omega
  rw[rO,n,<-Ap,Nc,pt ai];exact h _ x b
def fj.front{I e l cs n}(h:fj w I e l cs)(c:l.length*e.size<=n)(f:n<=cs.length):fj w I e l (cs.take n):=by intro i x b;have g:(i+1)*e.size<=l.length*e.size:=hL _ ((ga.1 b).1);have:(((cs.take n)++cs.drop n).drop<|i*e.size).take e.size=((cs.take n).drop _).take e.size:=pt (by rw[cY];omega);rw[<-this,Ba];exact h i x b
def ala{I e m v tx t0 o}(p:(∃o,P.underlying tx=aa (.slice o))\/P.underlying tx=aa .string)(l:P.underlying t0=aa (.slice o))(h:Ej w I e m v) :
  ∃b,Src P e.size tx v m.length b w/\fj w I e m b:=by
 suffices ∃b,Src P e.size t0 v m.length b w/\fj w I e m b by obtain⟨b,c,q⟩:=this;exact⟨b,⟨p,c.len,c.cells,c.cellsD,c.newsLen,c.one⟩,q⟩
 rcases h with ⟨rfl,g,f,n,y,t⟩|⟨r,s,f,n,y,t,z⟩
 .refine⟨[],?_,λi x A=>by cases A⟩;rcases t with rfl|⟨r,s,rfl⟩
  .rw[n];cases g with
   | none=>exact Src.ofNil w l 0
   | some C=>exact Src.ofSlice w l C 0 0 [] aW (λj u k=>by cases k) Ak
  rw[n];exact Src.ofSlice w l _ 0 f [] aW (λj u k=>by cases k) Ak
 .obtain⟨b,c,q,D,E⟩:=Hz z;refine⟨b,?_,E⟩;rw[n];exact Src.ofSlice w l _ m.length f b c (λj u k=>by rw[addr_add];exact q j u k) D
def alb{I s tx}(h:(∃k,P.underlying tx=aa (.slice k))\/P.underlying tx=aa .string) :
  ∃e,Src P 1 tx (.string ⟨s.toArray⟩) (aB s).length e w/\fj w I (.int .u8) (aB s:List Int) e:=by
 have hlen:(aB s).length=(⟨s.toArray⟩:ByteArray).size:=by simp[aB,ByteArray.size]
 refine⟨byteCells ⟨s.toArray⟩,by rw[hlen];exact⟨h,λ_=>rfl,firstCells_string _ w,firstCells_string _ w.drew,by rw[byteCells_length,Pq],λu l=>by obtain⟨_,_,rfl⟩:=Bc.1 l;rfl⟩,λi x m=>?_⟩
 have c:(aB s)[i]?=aa x:=m;simp only[aB,B7] at c;cases g:s[i]? with|none=>rw[g] at c;cases c|some b =>rw[g] at c;obtain rfl:_=x:=aU c;refine⟨?_,V2 b⟩;apply Pg;intro j;rw[kh];split;{(rename_i f;obtain rfl:j=0:=by simp[Ty.size] at f;exact f);simp[byteCells,Ty.size,g]};rename_i f;rw[SK<|by simp[Ty.size] at f⊢;omega]
def Eo{I t tx ty b e l m base sCap olds news x}(s:P.underlying t=aa (.slice b))(u:Den P e b)(v:KJ P b=true)
  (c:(Builtin.firstCells e.size l.length<|.slice base l.length sCap).run P w.drew=.ok olds.toArray w.drew) (f:olds.length=l.length*e.size) (y:fj w I e l olds) (h:Src P e.size tx x m.length news w) (z:fj w I e m news) (p:sCap<l.length+m.length) (A:l.length+m.length<=4294967296) : ∃(cap:Nat) (cells:Array Value),(Builtin.append_ #[t,tx] ty #[.slice base l.length sCap,x]).run P w=.ok (.slice (aa ⟨w.heap.size,0,af⟩) (l.length+m.length) cap) (w.drew.alloc<|.cells cells b) /\l.length+m.length<=cap/\cap<=maxLen/\cells.size=cap*e.size/\fj w I e (l++m) cells.toList:=by
 obtain⟨C,i,q,r,D,E⟩:=u.info;have g:=growslice_fits p (by have:=ahV A (En v q);omega)
 have j:=grownCap_ge w (l.length+m.length) sCap b;have k:i.cells.size=e.size:=by rw[<-en e,<-E];simp
 refine⟨_,_,(run_append_grow_src w t tx ty b C i s q D base l.length sCap olds (by rw[r];exact c) x m.length news (by rw[r];exact h) p ai g),j,(grownCap_le_maxLen w _ sCap b (by have:=HB;omega)),?_,?_⟩
 .have n:=h.newsLen;have o:(Builtin.zeroCells i.cells<|grownCap w (l.length+m.length) sCap b-(l.length+m.length)).size=(grownCap w (l.length+m.length) sCap b-(l.length+m.length))*e.size:=by simp[Builtin.zeroCells,k]
  rw[Array.size_append,o];simp only[Pj,gR,f,n];rw[<-iO,<-iO];grind
 .rw[adM];exact y.append z f h.newsLen
def bP.grow{mem}(h:bP B γ mem w){b bx}(y:mem b=aa bx){e:Ty}{l l':List e.den}(j:bx.buf=true)(C:bx.val=.data (.slice e) l){blk cap}(hl:γ.loc b=aa (blk,cap))
  {cur cur' t fr} (L:w.heap[blk]?=aa (.cells cur t fr)) (D:ThB e cur fr) (ak6:bx.tid=0\/t=bx.tid) (M:cur'.size=cur.size) (E:∀o,o<l.length*e.size->cur'[o]?=cur[o]?) (he:0<e.size) (F:l.length<=l'.length) (anB:l'.length<=cap) (alc:cap<=maxLen) (G:cur.size=cap*e.size) (H:fj w γ.I e l' cur'.toList) : let m:Box:={ bx with val:=.data (.slice e) l',aY:=bx.aY+1 }
  bP B γ (dh mem b m) (w.setRow blk cur')/\Ext B γ mem w γ (dh mem b m) (w.setRow blk cur'):=by
 intro m;have anC:=setRow_heap w blk cur cur' t fr L;have g:=λi r=>setRow_other w blk i cur' (r);have v:=Box.ec j C;have hx:Ext B γ mem w γ (dh mem b m) (w.setRow blk cur') :=
  { below:=⟨rfl,rfl,rfl,aW,λi r=>g i λe=>r (by rw[e];exact(h.fresh b blk cap (by rw[y];simp) hl).1)⟩
    I:=λ_ _ x=>x
    s9:=λ_ _ x=>.inl x
    cells:=λc o x=>by
     by_cases q:c=blk
     .subst q;have:=(h.sep b bx c cap o y hl x).2 j e l.length v;rw[cell_of_heap anC,cell_of_heap L]
      grind
     .exact dC (g c q)
    boxes:=λc cx p=>by
     by_cases q:c=b
     .subst q;obtain rfl:cx=bx:=aU (p.symm.trans y);exact⟨m,bK _ _,Nat.le_succ _,λk=>absurd k (by simp[m])⟩
     .exact⟨cx,by rw[bh _ q];exact p,b8 _,λ_=>⟨rfl,rfl,rfl⟩⟩ }
 refine⟨?_,hx⟩;exact
  { dk:=h.IP hx
    base:=by have:=h.base;simpa using this
    boxes:=λc cx p=>by
     by_cases q:c=b
     .subst q;rw[bK] at p;obtain rfl:=aU p;simp only[m,j];exact⟨e,l',rfl,he,.inr ⟨blk,cap,cur',t,fr,hl,anC,D.same M,ak6,anB,alc,by rw[M];exact G,λi x r=>bZ.mono hx.I hx.cells (H i x r)⟩⟩
     .rw[bh _ q] at p;refine(h.boxes c cx p).keep hx rfl λf z J=>g f λQ=>q ?_;subst Q;exact h.inj c b f z cap (by rw[p];simp) (by rw[y];simp) J hl
    inj:=λc d f R S p T A U=>h.inj c d f R S (by
     by_cases e:c=b
     .subst e;rw[y];simp
     .rwa [bh _ e] at p) (by
     by_cases e:d=b
     .grind
     .rwa [bh _ e] at T) A U
    fresh:=λc f z p A=>by
     have:=h.fresh c f z (by
      by_cases e:c=b
      .grind
      .rwa [bh _ e] at p) A
     simp_all
    xd:=λf s r=>by have:=h.xd f s r;simpa using this
    sep:=λc cx f z s p A r=>by
     by_cases q:c=b
     .subst q;rw[bK] at p;obtain rfl:=aU p;obtain⟨V,W⟩:=h.sep c bx f z s y A r;refine⟨V,λ_ u n O=>?_⟩;have K:m.row=aa _:=Box.ec j rfl;rw[K] at O;obtain⟨rfl,rfl⟩:=b9 (aU O);have:=W j e l.length v;exact Hq this (hL _ F)
     .rw[bh _ q] at p;exact h.sep c cx f z s p A r }
def aiu(i:bP B γ σ.mem w){e m x v tx t0 f}(c:(∃f,P.underlying tx=aa (.slice f))\/P.underlying tx=aa .string)(j:P.underlying t0=aa (.slice f))
  (g:cK γ σ.mem w x .val [v]) (h:Ar e σ x=aa m):∃b,Src P e.size tx v m.length b w/\fj w γ.I e m b:=by
 unfold Ar at h;split at h
 .rename_i t;obtain⟨q,k⟩:=mE h;subst q;subst k;obtain⟨l,_⟩:=Av g;rw[l];exact alb c
 .exact ala c j (uM i g h)
def Cm{α c}{t:Tree α}{y}(h:(bif c then .fail else t).run=aa y):c=false/\t.run=aa y:=by cases c with|true=>cases h|false=>exact⟨rfl,h⟩
def td{base t tx ty c size x news}(g:P.underlying t=aa (.slice c))(e:(Go.sizeOf c).run P w=.ok size w)(b:Src P size tx x 0 news w) :
  (Builtin.append_ #[t,tx] ty #[.slice base 0 0,x]).run P w=.ok (.slice base 0 0) w:=by
 cases base with|none=>(rcases b.kind with ⟨h,f⟩|f<;>simp[Builtin.append_,run_underlying g,run_underlying f,e,b.len,b.cells])|some j =>(have i:news=[]:=by have:=b.newsLen;simpa using this);subst i;rcases b.kind with ⟨h,f⟩|f<;>simp[Builtin.append_,run_underlying g,run_underlying f,e,b.len,b.cells,storeCells]
def Gv size base:(Builtin.firstCells size 0<|.slice base 0 0).run P w=.ok #[] w:=by cases base with|none=>exact run_firstCells_none w size 0 0 0|some b=>exact run_firstCells_some w size 0 b 0 0 [] aW (λj v c=>by cases c)
def l6{t tx ty e size x news n b sCap blk cur k h}(m:P.underlying t=aa (.slice e))(i:(Go.sizeOf e).run P w=.ok size w)
  (g:Src P size tx x n news w) (o:w.heap[blk]?=aa (.cells cur k h)) (j:oA cur h) (c:b+n<=sCap) (p:b*size+news.length<=cur.size) : (Builtin.append_ #[t,tx] ty #[.slice (aa ⟨blk,0,af⟩) b sCap,x]).run P w=.ok (.slice (aa ⟨blk,0,af⟩) (b+n) sCap) (w.setRow blk (bk cur.toList (b*size) news).toArray):=by
 have f:=dn (P:=P) blk _ k h news 0 cur w o j ai g.one;simp at f;rcases g.kind with ⟨q,l⟩|l<;>simp[Builtin.append_,run_underlying m,run_underlying l,i,g.len,c,g.cells,addr_add,f]
def HC{cs es k o}(h:o<k)(b:k<=cs.length):(bk cs k es)[o]?=cs[o]?:=by rw[bk,rO,X3 (by rw[cY];omega),kh,aN h]
def KR(hc:fM P cx){nb}{t tx ty}{s x}(h:dz B N γ σ a w)(hd:∀k,d=aa k->k<N)(hk0:(∃e',P.underlying tx=aa (.slice e'))\/P.underlying tx=aa .string)
  (F:(iP cx nb d t (dm σ s) (dm σ x) σ).run=aa bb):pr P B N γ σ a w d (Builtin.append_ #[t,tx] ty #[a.eval s,a.eval x]) bb:=by
 have K:=h.dm s;have hvx:=h.dm x;unfold iP at F;split at F
 case h_2=>exact absurd F ch
 rename_i _ _ k e hT;obtain⟨C,S,f2,f3,f4⟩:=(hc.T _ _ hT).slice;have U:=f2.sizeOf w;split at F
 case h_2=>exact absurd F ch
 rename_i m hm;obtain⟨y,V,n2⟩:=aiu h.ok hk0 S hvx hm;split at F
 .rename_i hs;rw[hs] at K;obtain G:a.eval s=_:=by simpa [cK] using K
  obtain⟨O,W⟩:=cL F;have O:=I5 O;obtain⟨aY,D,hr3⟩:=ef W;obtain rfl:=aU hr3;rw[G];rcases adO m.length with A|A
  .obtain rfl:m=[]:=Am.1 A;obtain⟨m1,p⟩:=h.ok.PK D f4;refine⟨_,_,_,td S U V,h.step p m1 (hd k rfl) ?_,p⟩;exact⟨⟨_,rfl,rfl⟩,gI (bK _ _) rfl ⟨e,0,rfl,rfl,.inl ⟨by simp[bT],rfl⟩⟩⟩
  .obtain⟨g,f,g1,g2,M,g4,g5⟩:=Eo (l:=([])) (sCap:=0) (olds:=[]) S f2 f3 (by simpa using run_firstCells_none w.drew e.size 0 0 0) aW (λi x hx=>by cases hx) V n2
    (by simpa using A) (by simpa using O)
   simp at g1 g2 g5;obtain⟨m1,p⟩:=h.ok.PJ D f4 ((yh.refl B w).drew.alloc h.ok.base _) (cZ w.drew _) (heap_alloc_new w.drew _) (yv _ _) (.inl rfl) g2 M g4 g5;refine⟨_,_,_,g1,h.step p m1 (hd k rfl) ?_,p⟩;exact Bn rfl rfl
 .rename_i b aY hs;rw[hs] at K;split at F
  case h_2=>exact absurd F ch
  rename_i bx l X hl;obtain⟨wE,hb',D,c,Y⟩:∃bx,σ.mem b=aa bx/\bx.aY=aY/\bx.buf=true/\bx.val=.data (.slice e) l:=by
   rcases oC hl with q|⟨q,_⟩|⟨b',asZ,wE,q,h1,Q,h3,h4⟩|⟨_,_,_,_,_,q,_⟩
   .cases q
   .cases q
   .grind
   .cases q
  obtain rfl:bx=wE:=aU (X.symm.trans hb')
  .obtain⟨hlk,hr1⟩:=Cm F;obtain⟨O,W⟩:=cL hr1;obtain rfl:=aU W;have O:l.length+m.length<=4294967296:=by
    have:fits (((l.length+m.length)):Int)=true:=by rw[<-O];simp[plus,len]
    exact I5 this
   have R:bx.tid=0\/C=bx.tid:=by
    simp at hlk;have Q:=hlk.2;unfold anq at Q;simp at Q;rcases Q with Q|Q
    .simp_all
    .split at Q
     .rename_i e' he';have:=hc.Yp _ _ he';simp_all
     .cases Q
   subst D;obtain⟨e2,n2',g1,g2,M⟩:=bC X rfl K.2;rw[Box.ec c Y] at g2;obtain⟨rfl,rfl⟩:=b9 (aU g2);have hat:=h.ok.boxes b bx X;rw[e7,c] at hat;obtain⟨e3,l3,q1,q2,Z⟩:=hat;rw[Y] at q1;cases q1;have r:(app l m).length=l.length+m.length:=gR;rcases M with ⟨M,g4⟩|⟨E,g,M,g4⟩
   .obtain G:a.eval s=_:=by simpa using g4
    have hl0:l=[]:=by
     grind
    subst hl0;rw[G];rcases adO m.length with A|A
    .obtain rfl:m=[]:=Am.1 A;have H:e7 (bT γ b af) (dh σ.mem b { bx with val:=.data (.slice e) ([]:List e.den),aY:=bx.aY+1 }) w b { bx with val:=.data (.slice e) ([]:List e.den),aY:=bx.aY+1 }:=by
      simp only[c];exact⟨e,[],rfl,f4,.inl ⟨by simp[bT],rfl⟩⟩
     have z:∀n,σ.mem b=aa n->n.aY<bx.aY+1:=λn A=>by rw[X] at A;obtain rfl:=aU A;omega
     have m1:=h.ok.add z (yh.refl B w) (λ_ _=>rfl) (λE k e=>by cases e) H;have p:=xA (L:=af) h.ok (bx:={ bx with val:=.data (.slice e) ([]:List e.den),aY:=bx.aY+1 }) z (yh.refl B w) (λ_ _=>rfl);refine⟨_,_,_,td S U V,h.step p m1 (hd k rfl) ?_,p⟩;exact⟨⟨_,rfl,rfl⟩,gI (bK _ _) rfl ⟨e,0,c,Box.ec (bx:={ bx with val:=.data (.slice e) ([]),aY:=bx.aY+1 }) c rfl,.inl ⟨by simp[bT],rfl⟩⟩⟩
    .obtain⟨g,f,j1,j2,j3,j4,j5⟩:=Eo (I:=γ.I) (ty:=ty) (l:=([])) S f2 f3 (by simpa using Gv e.size af) aW (λi x hx=>by cases hx) V n2
      (by simpa using A) (by simpa using O)
     have z:∀n,σ.mem b=aa n->n.aY<bx.aY+1:=λn A=>by rw[X] at A;obtain rfl:=aU A;omega
     have hw:yh B w (w.drew.alloc<|.cells f C):=(yh.refl B w).drew.alloc h.ok.base _;have p:=xA (L:=aa (w.heap.size,g)) h.ok (bx:={ bx with val:=.data (.slice e) (app (α:=e.den) [] m),aY:=bx.aY+1 }) z hw (cZ w.drew _);have H:e7 (bT γ b<|some (w.heap.size,g)) (dh σ.mem b { bx with val:=.data (.slice e) (app (α:=e.den) [] m),aY:=bx.aY+1 }) (w.drew.alloc<|.cells f C) b { bx with val:=.data (.slice e) (app (α:=e.den) [] m),aY:=bx.aY+1 }:=by
      simp only[c];exact⟨e,_,rfl,f4,.inr ⟨w.heap.size,g,f,C,_,by simp[bT],heap_alloc_new w.drew _,yv _ _,R,by rw[r];exact j2,j3,j4,λi x hi=>bZ.mono p.I p.cells (j5 i x hi)⟩⟩
     have m1:=h.ok.add (L:=aa _) z hw (cZ w.drew _) (λE k e=>by obtain⟨rfl,rfl⟩:=b9 (aU e);exact⟨b8 _,(A9.1<|heap_alloc_new w.drew _).1⟩) H;refine⟨_,_,_,j1,h.step p m1 (hd k rfl) ?_,p⟩;exact Bn c (by rw[<-r];exact Box.ec c rfl)
   .obtain G:a.eval s=_:=by simpa using g4
    rw[G];rcases Z with ⟨Z,_⟩|⟨afl,anx,u,tid,fr,Z,q4,q5,ao0,q6,q7,q8,q9⟩
    .rw[M] at Z;cases Z
    rw[M] at Z;obtain⟨rfl,rfl⟩:=b9 (aU Z);have hcl:u.toList.length=g*e.size:=by simpa using q8
    have hlc:l.length*e.size<=g*e.size:=hL _ q6;rcases xy g _ with hgt|hle
    .have hfc:=run_firstCells_some (P:=P) w.drew e.size l.length ⟨E,0,af⟩ l.length g (u.toList.take<|l.length*e.size) (by rw[cY];omega) (λj v hj=>by
      rw[addr_add];show w.cell? ⟨E,0+j,af⟩=aa v
      rw[cell_of_heap q4];rw[kh] at hj;split at hj
      .grind
      .cases hj)
     obtain⟨J,f,j1,j2,j3,j4,j5⟩:=Eo S f2 f3 hfc (by rw[cY];omega) (fj.front q9 (b8 _) ai) V n2 hgt O;have z:∀n,σ.mem b=aa n->n.aY<bx.aY+1:=λn A=>by rw[X] at A;obtain rfl:=aU A;omega
     have hw:yh B w (w.drew.alloc<|.cells f C):=(yh.refl B w).drew.alloc h.ok.base _;have p:=xA (L:=aa (w.heap.size,J)) h.ok (bx:={ bx with val:=.data (.slice e) (app (α:=e.den) l m),aY:=bx.aY+1 }) z hw (cZ w.drew _);have H:e7 (bT γ b<|some (w.heap.size,J)) (dh σ.mem b { bx with val:=.data (.slice e) (app (α:=e.den) l m),aY:=bx.aY+1 }) (w.drew.alloc<|.cells f C) b { bx with val:=.data (.slice e) (app (α:=e.den) l m),aY:=bx.aY+1 }:=by
      simp only[c];exact⟨e,_,rfl,f4,.inr ⟨w.heap.size,J,f,C,_,by simp[bT],heap_alloc_new w.drew _,yv _ _,R,by rw[r];exact j2,j3,j4,λi x hi=>bZ.mono p.I p.cells (j5 i x hi)⟩⟩
     have m1:=h.ok.add z hw (cZ w.drew _) (λE k e=>by obtain⟨rfl,rfl⟩:=b9 (aU e);exact⟨b8 _,(A9.1<|heap_alloc_new w.drew _).1⟩) H;refine⟨_,_,_,j1,h.step p m1 (hd k rfl) ?_,p⟩;exact Bn c (by rw[<-r];exact Box.ec c rfl)
    .have hnl:=V.newsLen;have hmul:_*e.size<=g*e.size:=hL _ hle;rw[iO] at hmul;have hlen:l.length*e.size+y.length<=u.toList.length:=by rw[hnl,hcl];exact hmul
     have anF:=l6 (ty:=ty) S U V q4 q5.th hle (by simpa using hlen);have aqB:(bk u.toList (l.length*e.size) y).toArray.size=u.size:=by have:=bS hlen;simpa using this
     obtain⟨m1,p⟩:=h.ok.grow X c Y M q4 q5 ao0 (cur':=(bk u.toList _ y).toArray) (l':=app l m) aqB (λo ho=>by
      have:=HC (es:=y) ho (by omega:l.length*e.size<=u.toList.length);simpa using this) f4 ai (by rw[r];exact hle) q7 q8 (by
      have:=(fj.front q9 (b8 _) (by omega:l.length*e.size<=u.toList.length)).append (rest:=u.toList.drop (l.length*e.size+y.length)) n2 (by rw[cY];omega) hnl;exact this)
     refine⟨_,_,γ,anF,h.step p m1 (hd k rfl) ?_,p⟩;exact⟨⟨_,rfl,rfl⟩,gI (bK _ _) rfl ⟨e,l.length+m.length,c,by rw[<-r];exact Box.ec (bx:={ bx with val:=.data (.slice e) _,aY:=bx.aY+1 }) c rfl,.inr ⟨E,g,M,rfl⟩⟩⟩
 .exact absurd F ch
end
end Go.Ge
namespace Go.Ge
open RowKit
def jq(w:World)(I:Nat->Nat->Prop):(A:Ty)->A.den->List Value->Prop|.pair t r,x,vs=>∃c b,vs=cX t c::b/\bZ w I t x.1 c/\jq w I r x.2 b|.unit,_,vs=>vs=[]|_,_,_=>False
def nG(w:World)(I:Nat->Nat->Prop)(R:Ty)(y:R.den)(v:Value):Prop:=cK ⟨I,λ_=>af⟩ (λ_=>af) w (yp R y) .val [v]
structure Holds (P:Program) (G:Eh) (f:Nat) (c:D1):Prop where
 body:∃fn code,P.funcs[f]?=aa fn/\(fn.name == "runtime.NumGoroutine")=false/\fn.body=aa code
 calls:∀(I:Nat->Nat->Prop) (w:World) (args:Array Value) (x:c.A.den) (y:c.R.den),(∀b o,I b o->b<w.heap.size)->KI G w->jq w I c.A x args.toList->c.spec x=aa y ->
  Calls P f args w λe w'=>∃v I',e=.returned v/\Below w.heap.size w w'/\(∀b o,I b o->I' b o)/\(∀b o,I' b o->b<w'.heap.size)/\(∀b o,I' b o->¬I b o->w.heap.size<=b)/\nG w' I' c.R y v
def l7(P:Program)(G:Eh)(g:String)(c:D1):Prop :=∀(I:Nat->Nat->Prop) (w:World) (v:Value) (i:List Value) (x:c.A.den) (y:c.R.den),(∀b o,I b o->b<w.heap.size)->KI G w->jq w I c.A x (v::i)->c.spec x=aa y ->∃f u,(callMethod v g i.toArray).run P w=(callFunc f (u::i).toArray).run P w/\(∃k h,P.funcs[f]?=aa k/\(k.name == "runtime.NumGoroutine")=false/\k.body=aa h) /\Calls P f (u::i).toArray w λe w'=>∃v j,e=.returned v/\Below w.heap.size w w'/\(∀b o,I b o->j b o)/\(∀b o,j b o->b<w'.heap.size)/\(∀b o,j b o->¬I b o->w.heap.size<=b)/\nG w' j c.R y v
def PX{P G name B R}:l7 P G name ⟨.pair .DV B,R,λ_=>af⟩:=λI w v b x y _ _ _ h=>by cases h
def oE{P G name}{u f:Nat}{a r B R:Ty}{s:a.den×B.den->Option R.den}{t:r.den×B.den->Option R.den}(h:Holds P G f ⟨.pair a B,R,s⟩)
  (o:∀v w,(method (P.types.size+Made.depth) u v name).run P w=.ok (f,v) w) (L:r.isAgg=false) (A:l7 P G name ⟨.pair r B,R,t⟩) : l7 P G name ⟨.pair (.alt u a r) B,R,λx=>pick (λy=>s (y,x.2)) (λz=>t (z,x.2)) x.1⟩:=by
 intro I w v b x y g i C j;obtain⟨D,E⟩:=x;obtain⟨F,k,H,l,m⟩:=C;obtain⟨n,rfl⟩:=ahX H;rcases D with p|q
 .obtain⟨M,c,rfl,J⟩:=l;refine⟨f,cX a c,?_,h.body,h.calls I w (cX a c::b).toArray _ y g i ⟨c,b,rfl,J,m⟩ j⟩;have K:v=.iface u (cX a c):=by rw[n];show cX r [Value.iface u _]=_;unfold cX;grind
  rw[K];have e:=o (cX a c) w;unfold callMethod;simp only[Sem.run_bind,run_program,Result.andThen_ok,e];simp
 .exact A I w v b (q,E) y g i ⟨F,b,by rw[n];rfl,l,m⟩ j
def bP.far{B γ mem w w'}(h:bP B γ mem w)(e:Below w.heap.size w w'){I'}(n:∀b o,γ.I b o->I' b o)(j:∀b o,I' b o->b<w'.heap.size)
  (f:∀b o,I' b o->¬γ.I b o->w.heap.size<=b):bP B ⟨I',γ.loc⟩ mem w'/\Ext B γ mem w ⟨I',γ.loc⟩ mem w':=by
 have hx:Ext B γ mem w ⟨I',γ.loc⟩ mem w' :=
  { below:=.of ⟨e.os,e.tape,e.output,e.size,λk p=>e.block k (Hq p h.base)⟩
    I:=n
    s9:=λb o x=>by
     by_cases hi:γ.I b o
     .grind
     .exact .inr (.inl<|gS h.base<|f b o x hi)
    cells:=λb o hi=>dC (e.block b<|h.xd b o hi)
    boxes:=λb l hb=>⟨l,hb,b8 _,λ_=>⟨rfl,rfl,rfl⟩⟩ }
 refine⟨?_,hx⟩;exact
  { dk:=h.IP hx
    base:=gS h.base e.size
    boxes:=λb l hb=>(h.boxes b l hb).keep hx rfl λc k i=>e.block c (h.fresh b c k (by rw[hb];simp) i).2
    inj:=h.inj
    fresh:=λb c k hb i=>by have:=h.fresh b c k hb i;exact⟨this.1,Hq this.2 e.size⟩
    xd:=j
    sep:=λb l c k g hb i hi=>by
     by_cases m:γ.I c g
     .exact h.sep b l c k g hb i m
     .have q:=f c g hi m;have r:=(h.fresh b c k (by rw[hb];simp) i).2;omega }
def afp{w γ bM mem cS}(f:∀b o,γ.I b o->bM.I b o):∀{R y vs},cK γ mem w (Eb R y) .many vs->cK bM cS w (Eb R y) .many vs:=by intro R;induction R with|pair t r g e =>(intro y vs h;obtain⟨v,c,i,⟨j,k,l⟩,m⟩:=h;exact⟨v,c,i,⟨j,bZ.mono f (λ_ _ _=>rfl) k,l⟩,e m⟩)|_=>intro y vs h;exact h
def I7(R:Ty) y:(∃t,∃q:R=.pair t .unit,yp R y=.data t (show(Ty.pair t .unit).den from q▸y).1)\/yp R y=.D0 (Eb R y):=by cases R with|pair t r =>(cases r with|unit=>exact .inl ⟨t,rfl,rfl⟩|_=>exact .inr rfl)|_=>exact .inr rfl
def nG.rep{w I R y v}(h:nG w I R y v){γ mem}(i:∀b o,I b o->γ.I b o):cK γ mem w (yp R y) .val [v]:=by
 unfold nG at h;rcases I7 R y with ⟨t,q,c⟩|c
 {rw[c] at h⊢;obtain⟨j,e,f⟩:=h;exact⟨j,bZ.mono i (λ_ _ _=>rfl) e,f⟩};rw[c] at h⊢;obtain⟨g,e,f⟩:=h;exact⟨g,e,afp i f⟩
def PY{w w' γ bM mem cS}:∀{R y vs},R.flat=true->cK γ mem w (Eb R y) .many vs->cK bM cS w' (Eb R y) .many vs:=by intro R;induction R with|pair t r f e =>(intro y vs c h;simp only[Ty.flat,gC] at c;obtain⟨v,b,g,⟨i,j,k⟩,l⟩:=h;exact⟨v,b,g,⟨i,bZ.flat c.1 j,k⟩,e c.2 l⟩)|_=>intro y vs c h;exact h
def nG.flat{w w' I R y v}(h:nG w I R y v){γ mem}(b:R.flat=true):cK γ mem w' (yp R y) .val [v]:=by
 unfold nG at h;rcases I7 R y with ⟨t,q,c⟩|c
 {rw[c] at h⊢;subst q;simp only[Ty.flat,gC] at b;obtain⟨i,e,f⟩:=h;exact⟨i,bZ.flat b.1 e,f⟩};rw[c] at h⊢;obtain⟨g,e,f⟩:=h;exact⟨g,e,PY b f⟩
section
variable {P:Program} {B:DW} {N:Nat} {γ:Gh} {σ bb:St} {a:Act} {w w':World} {d:Option Nat} {cx:Ctx}
def Ej.aqC{I I' e l v}(h:Ej w I e l v)(s:∀b o,I b o->I' b o)(t:∀f g k,v=.slice (aa ⟨f,g,af⟩) l.length k->l≠[]->∀o,I' f o) :
  bZ w I' (.slice e) l [v]:=by
 rcases h with ⟨rfl,m,k,n,q,r⟩|⟨f,g,k,n,q,r,u⟩
 .rcases r with rfl|⟨f,g,rfl⟩;{exact .inl ⟨⟨m,by rw[n]⟩,rfl⟩}
  .exact .inr ⟨f,g,k,by rw[n];rfl,qh _,q,λi x p=>by cases p⟩
 .refine .inr ⟨f,g,k,by rw[n],q,r,λi x p=>?_⟩;obtain⟨y,z,A,C⟩:=u i x p;exact⟨y,z,λj c D=>⟨A j c D,t f g k n (λe=>by rw[e] at p;cases p) _⟩,bZ.mono s (λ_ _ _=>rfl) C⟩
def V3(x:bP B γ σ.mem w){e v l blk off n cap}(y:cK γ σ.mem w v .val [.slice (aa ⟨blk,off,af⟩) n cap])(D:jx e σ v=aa l)(j:l≠[]) :
  (∃q,v=.data (.slice e) q)\/(B.has blk/\blk<w.heap.size):=by
 rcases oC D with rfl|⟨rfl,rfl⟩|⟨b,r,E,rfl,m,f,z,F⟩|⟨b,r,K,L,E,rfl,m,f,s⟩
 .exact .inl ⟨_,rfl⟩
 .exact absurd rfl j
 .obtain⟨G,k,M,H,o⟩:=bC m f y.2;rcases o with ⟨o,A⟩|⟨g,h,o,A⟩
  .grind
  .have i:blk=g:=by
    grind
   subst i;exact .inr (x.fresh b blk h (by rw[m];simp) o)
 .obtain⟨G,k,H,o,A,O,C,h,I,Q,R,S,p⟩:=bC m f y.2;have t:=D4 I;rcases p with p|⟨g,c,p,u⟩
  .exfalso;apply j;rcases s with ⟨_,J,_,rfl⟩|⟨_,T,J,_,rfl⟩<;>simp[sub,p]
  .injection t with i _ _
   rw[u] at i;injection i with i
   injection i with i _
   subst i;exact .inr (x.fresh b blk c (by rw[m];simp) p)
def HD(F:bP B γ σ.mem w){I'}(G:∀b o,γ.I b o->I' b o)(J:∀b o,B.has b->b<w.heap.size->I' b o):∀{v t x cs},
  cK γ σ.mem w v .cells cs->uv σ t v=aa x->bZ w I' t x cs:=by
 have m:∀{v e l cs},dX v=1->(∀c,cK γ σ.mem w v .cells [c]->cK γ σ.mem w v .val [c])->(∀t x,v≠.data t x)->cK γ σ.mem w v .cells cs->jx e σ v=aa l->bZ w I' (.slice e) l cs:=by intro v e l cs A i K h f;obtain⟨c,rfl⟩:=Mi h A;have hv:=i c h;refine(uM F hv f).aqC G λL M O Q C o=>?_;subst Q;rcases V3 F hv f C with ⟨q,j⟩|⟨H,W⟩;{grind};grind
 intro v;induction v with|data u y =>((intro t x cs h f;have key:(∃q:u=t,x=q▸y):=by cases t with|slice e =>(rcases oC f with g|⟨g,_⟩|⟨_,_,_,g,_⟩|⟨_,_,_,_,_,g,_⟩;{injection g with R S;subst R;exact⟨rfl,(eq_of_heq S).symm⟩};{cases g};{cases g};cases g)|_=>exact Ty.lZ f);obtain⟨q,j⟩:=key;subst q;subst j;exact bZ.mono G (λ_ _ _=>rfl) h)|mix p q D E =>(intro t x cs h f;cases t with|pair s r =>(obtain⟨T,U,rfl,A,H⟩:=h;obtain⟨y,z,V,j,rfl⟩:=I0 f;exact⟨T,U,rfl,D A V,E H j⟩)|slice e=>exact absurd f ch|_=>cases f)|qq =>(intro t x cs h f;cases t with|slice e=>exact m (v:=.qq) rfl (λc k=>k) (λ_ _=>aW) h f|_=>cases f)|whole b aY =>(intro t x cs h f;cases t with|slice e=>exact m (v:=.whole b aY) rfl (λc k=>k) (λ_ _=>aW) h f|_=>cases f)|part b aY lo n =>(intro t x cs h f;cases t with|slice e=>exact m (v:=.part b aY lo n) rfl (λc k=>k) (λ_ _=>aW) h f|_=>cases f)|vN =>(intro t x cs h f;obtain rfl:cs=[.nilIface]:=h;exact(sk f).1 _ _)|_ =>intro t x cs h f;cases t with|slice e=>exact absurd f ch|_=>cases f
def PZ(j:bP B γ σ.mem w){I'}(k:∀b o,γ.I b o->I' b o)(h:∀b o,B.has b->b<w.heap.size->I' b o){v t x val}
  (f:cK γ σ.mem w v .val [val]) (c:uv σ t v=aa x):∃i,bZ w I' t x i/\val=cX t i:=by
 have one:∀{v},cK γ σ.mem w v .cells [val]->(∃e,t=.slice e)->uv σ t v=aa x->∃i,bZ w I' t x i/\val=cX t i:=by intro v z A c;obtain⟨e,rfl⟩:=A;exact⟨[val],HD j k h z c,rfl⟩
 cases v with|data u y =>(obtain⟨i,l,m⟩:=et.1 f;have z:=HD j k h (v:=.data u y) l c;rw[m];have:u.isAgg=t.isAgg:=by cases t with|slice e =>(rcases oC c with g|⟨g,_⟩|⟨_,_,_,g,_⟩|⟨_,_,_,_,_,g,_⟩;{injection g with C G;rw[C]};{cases g};{cases g};cases g)|_=>obtain⟨q,_⟩:=Ty.lZ c;rw[q]);unfold cX;grind|mix p q =>((obtain⟨D,E,F,l,m⟩:=f;obtain rfl:val=_:=by simpa using F);refine⟨_,(HD j k h (v:=.mix p q) ⟨D,E,rfl,l,m⟩ c),?_⟩;cases t with|pair s r=>rfl|slice e=>exact absurd c ch|_=>cases c)|qq=>(cases t with|slice e=>exact one f ⟨e,rfl⟩ c|_=>cases c)|whole b aY=>(cases t with|slice e=>exact one f ⟨e,rfl⟩ c|_=>cases c)|part b aY lo n=>(cases t with|slice e=>exact one f ⟨e,rfl⟩ c|_=>cases c)|vN =>(have f:[val]=[Value.nilIface]:=f;obtain rfl:val=.nilIface:=by simpa using f);exact⟨[.nilIface],(sk c).1 _ _,(sk c).2.2.1.symm⟩|_=>cases t with|slice e=>exact absurd c ch|_=>cases c
def nH(f:Gh)(b:Nat->Option Box)(w:World)(c:List cw)(e:List Value):Prop:=e.length=c.length/\∀(i:Nat) v x,c[i]?=aa v->e[i]?=aa x->cK f b w v .val [x]
def nH.cons{mem v vs b}(h:nH γ mem w (v::vs) b):∃x r,b=x::r/\cK γ mem w v .val [x]/\nH γ mem w vs r:=by cases b with|nil=>cases h.1|cons x r=>exact⟨x,r,rfl,h.2 0 v x rfl rfl,by simpa using h.1,λi c e f g=>h.2 (i+1) c e f g⟩
def nH.ext{mem cS bM vs b}(h:nH γ mem w vs b)(c:Ext B γ mem w bM cS w'):nH bM cS w' vs b:=⟨h.1,λi v x e f=>(h.2 i v x e f).ext c⟩
def SV(j:bP B γ σ.mem w){I'}(k:∀b o,γ.I b o->I' b o)(g:∀b o,B.has b->b<w.heap.size->I' b o):∀{A x vs e},
  nH γ σ.mem w vs e->jm σ A vs=aa x->jq w I' A x e:=by
 intro A;induction A with|pair t r l i =>(intro x vs e h c;cases vs with|nil=>cases c|cons v vs =>obtain⟨y,f,rfl,m,n⟩:=h.cons;simp only[jm] at c;split at c;{rename_i p q s u;obtain rfl:=aU c;obtain⟨z,C,D⟩:=PZ j k g m s;exact⟨z,f,by rw[D],C,i n u⟩};cases c)|unit =>(intro x vs e h c;cases vs with|nil=>exact Am.1 h.1|cons v vs=>cases c)|_=>intro x vs e h c;cases vs<;>cases c
def jq.mono{I I'}(f:∀b o,I b o->I' b o)(g:∀b o,I b o->w'.cell? ⟨b,o,af⟩=w.cell? ⟨b,o,af⟩):∀{A x c},jq w I A x c->jq w' I' A x c:=by intro A;induction A with|pair t r i e=>(intro x c h;obtain⟨j,rest,k,l,m⟩:=h;exact⟨j,rest,k,bZ.mono f g l,e m⟩)|_=>intro x c h;exact h
def ve:∀{A x vs c σ bb γ},dz B N γ σ a w->nH γ σ.mem w vs c->l4 σ A vs=aa (x,bb) ->
  ∃bM,dz B N bM bb a w/\Ext B γ σ.mem w bM bb.mem w/\jq w bM.I A x c:=by
 intro A;induction A with|pair t r m g =>(intro x vs c σ bb γ h f b;cases vs with|nil=>cases b|cons v vs =>obtain⟨y,e,rfl,n,o⟩:=f.cons;simp only[l4] at b;split at b;{rename_i p b4 s;split at b;{(rename_i q cM u;obtain⟨rfl,rfl⟩:=b9 (aU b);obtain⟨z,C,l,D,E,i⟩:=oD h n s;obtain i:y=_:=by simpa using i);obtain⟨j,F,k,G⟩:=g C (o.ext l) u;exact⟨j,F,l.trans k,D,e,by rw[i],bZ.mono k.I k.cells E,G⟩};cases b};cases b)|unit =>(intro x vs c σ bb γ h f b;cases vs with|nil=>(obtain⟨rfl,rfl⟩:=b9 (aU b);exact⟨γ,h,Ext.refl _ _ _ _,Am.1 f.1⟩)|cons v vs=>cases b)|_=>intro x vs c σ bb γ h f b;cases vs<;>cases b
def aiv(w:World)(I:Nat->Nat->Prop)(t:Ty)(x:t.den)(c:Nat):Prop:=∃b tid e,w.heap[c]?=aa (.cells b tid e)/\oA b e/\bZ w I t x b.toList
def Ax(w:World)(I:Nat->Nat->Prop):(U:Ty)->U.den->List Nat->Prop|.pair t U,u,c=>∃b r,c=b::r/\aiv w I t u.1 b/\Ax w I U u.2 r|.unit,_,c=>c=[]|_,_,_=>False
def YH(w:World)(I:Nat->Nat->Prop):List Bool->(A U:Ty)->A.den->List Value->List Nat->Prop|[],A,U,_,vs,c=>A=.unit/\U=.unit/\vs=[]/\c=[]|false::ps,A,U,x,vs,c=>(match A,x with|.pair t A,x=>∃f b,vs=cX t f::b/\bZ w I t x.1 f/\YH w I ps A U x.2 b c|_,_=>False)|true::ps,A,U,x,vs,c=>match U with|.pair _ U=>∃e b r,vs=.pointer (aa ⟨e,0,af⟩)::b/\c=e::r/\YH w I ps A U x b r|_=>False
structure gd (P:Program) (G:Eh) (f:Nat) (c:D8):Prop where
 body:∃fn code,P.funcs[f]?=aa fn/\(fn.name == "runtime.NumGoroutine")=false/\fn.body=aa code
 calls:∀(I:Nat->Nat->Prop) (w:World) (args:Array Value) (bs:List Nat) (x:c.A.den) (u:c.U.den) (y:c.R.den×c.U.den),(∀b o,I b o->b<w.heap.size)->KI G w->(∀b Q,G b Q->b∉bs)->YH w I c.ps c.A c.U x args.toList bs->Ax w I c.U u bs->bs.Nodup ->
  (∀blk∈bs,∀o,¬I blk o)->c.spec (x,u)=aa y ->
  Calls P f args w λe w'=>∃v I',e=.returned v/\yh ⟨w.heap.size,(·∈bs),G⟩ w w'/\(∀b o,I b o->I' b o)/\(∀b o,I' b o->b<w'.heap.size)/\(∀b o,I' b o->¬I b o->w.heap.size<=b)/\nG w' I' c.R y.1 v/\Ax w' I' c.U y.2 bs
structure zp (og:Option Nat) (w w':World):Prop where
 os:w'.os=w.os
 tape:w'.tape=w.tape
 output:w'.output=w.output
 size:w.heap.size<=w'.heap.size
 block:∀k,k<w.heap.size->og≠aa k->w'.heap[k]?=w.heap[k]?
 cell:∀k o,k<w.heap.size->w'.cell? ⟨k,o,af⟩=w.cell? ⟨k,o,af⟩
def zF(w:World)(I:Nat->Nat->Prop)(e:Ty)(l:List e.den)(L:Option (Nat×Nat))(v:Value):Prop :=(L=af/\l=[]/\v=.slice af 0 0)\/∃c b f tid g,L=aa (c,b)/\v=.slice (aa ⟨c,0,af⟩) l.length b/\w.heap[c]?=aa (.cells f tid g)/\ThB e f g /\l.length<=b/\b<=maxLen/\f.size=b*e.size/\(∀o,¬I c o)/\∀(i:Nat) (x:e.den),l[i]?=aa x->bZ w I e x ((f.toList.drop<|i*e.size).take e.size)
structure l8 (w:World) (I:Nat->Nat->Prop) (X:Nat->Prop) (w':World) (I':Nat->Nat->Prop):Prop where
 below:yh ⟨w.heap.size,X,zC⟩ w w'
 held:∀b o,I b o->I' b o
 xd:∀b o,I' b o->b<w'.heap.size
 s9:∀b o,I' b o->¬I b o->w.heap.size<=b
def e8(P:Program)(f:Nat):Spc->Prop|.chk T=>(∃fn h,P.funcs[f]?=aa fn/\(fn.name == "runtime.NumGoroutine")=false/\fn.body=aa h) /\∀(w:World) (b:Nat) (p v:Value) (n:Nat×Nat),w.heap[b]?=aa (.cells #[p,v] T n)->¬(n.1<=0/\0<n.2)->(p=.pointer af\/p=.pointer (aa ⟨b,0,af⟩)) ->Calls P f #[.pointer<|some ⟨b,0,af⟩] w λe w'=>e=.returned (.tuple #[])/\(w'=w\/w'=w.setRow b #[.pointer<|some ⟨b,0,af⟩,v])|.str T E=>(∃fn h,P.funcs[f]?=aa fn/\(fn.name == "runtime.NumGoroutine")=false/\fn.body=aa h) /\∀(w:World) (b:Nat) (p v:Value) (n:Nat×Nat) (l:bj) (r:Option Nat),w.heap[b]?=aa (.cells #[p,v] T n) ->((r=af/\v=.slice af 0 0/\l=[])\/∃(g cap:Nat) (cur:Array Value) (fr':Nat×Nat),r=aa g/\v=.slice (aa ⟨g,0,af⟩) l.length cap/\w.heap[g]?=aa (.cells cur E fr')/\l.length<=cap/\cap<=maxLen/\cur.size=cap/\∀(j:Nat) (x:UInt8),l[j]?=aa x->cur[j]?=aa (Value.int .u8 x.toNat)) ->Calls P f #[.pointer<|some ⟨b,0,af⟩] w λe w'=>e=.returned (.string ⟨l.toArray⟩)/\zp r w w'|.clone e=>(∃fn h,P.funcs[f]?=aa fn/\(fn.name == "runtime.NumGoroutine")=false/\fn.body=aa h) /\∀(I:Nat->Nat->Prop) (w:World) (args:Array Value) (l:List e.den),(∀b o,I b o->b<w.heap.size)->jq w I (.pair (.slice e) .unit) (l,()) args.toList->fits (len l)=true ->Calls P f args w λq w'=>∃v m L,q=.returned v/\l8 w I (λ_=>False) w' m/\zF w' m e l L v/\∀i c,L=aa (i,c)->w.heap.size<=i|.own e A res spec=>(∃fn h,P.funcs[f]?=aa fn/\(fn.name == "runtime.NumGoroutine")=false/\fn.body=aa h) /\∀(I:Nat->Nat->Prop) (w:World) (args:Array Value) (v:Value) (rest:List Value) (l l':List e.den) (L:Option (Nat×Nat)) (x:A.den),(∀b o,I b o->b<w.heap.size)->args.toList=v::rest->zF w I e l L v->jq w I A x rest->spec l x=aa l' ->Calls P f args w λq w'=>∃m,l8 w I (λk=>∃c,L=aa (k,c)) w' m /\match res with|true=>∃s t,q=.returned s/\zF w' m e l' t s/\∀i c,t=aa (i,c)->(∃c,L=aa (i,c))\/w.heap.size<=i|false=>q=.returned (.tuple #[])/\l'.length=l.length/\zF w' m e l' L v
structure sn (P:Program) (G:Eh) (cx:Ctx):Prop where
 con:∀f c,find cx.con f=aa c->Holds P G f c
 ah6:∀f c,find cx.ah6 f=aa c->gd P G f c
 XY:∀f s,find cx.XY f=aa s->e8 P f s
 inv:∀name c,Yq cx.inv name=aa c->l7 P G name c
def Refs(h:Gh)(e:Nat->Option Box):(U:Ty)->U.den->List Nat->List Nat->Prop|.pair t U,u,ns,g=>∃b r f q c k,ns=b::r/\g=f::q/\b∉r/\e b=aa c/\c.buf=false/\c.lk=false/\(c.ro=false/\c.tid=0)/\c.val=.data t u.1/\h.loc b=aa (f,k)/\Refs h e U u.2 r q|.unit,_,ns,g=>ns=[]/\g=[]|_,_,_,_=>False
def P0{l t}:du l t=true↔t∈l:=by induction l with|nil=>simp[du]|cons i r b =>simp only[du];simp_all
def Refs.P1{mem}:∀{U u ns e},Refs γ mem U u ns e->∀c∈e,∃b f k,b∈ns/\mem b=aa f/\f.ro=false/\γ.loc b=aa (c,k):=by intro U;induction U with|pair t U j l =>(intro u ns e h c g;obtain⟨b,r,i,q,f,k,rfl,rfl,m,n,o,p,s,v,x,y⟩:=h;grind)|unit=>intro u ns e h c g;rw[h.2] at g;cases g|_=>intro u ns e h;exact h.elim
def Refs.nodup{mem}(i:bP B γ mem w):∀{U u ns c},Refs γ mem U u ns c->c.Nodup:=by intro U;induction U with|pair t U j f =>(intro u ns c h;obtain⟨b,r,e,q,y,k,rfl,rfl,z,l,A,C,D,E,m,g⟩:=h;rw[ahR];refine⟨λn=>?_,f g⟩;obtain⟨o,p,s,F,v,G,x⟩:=g.P1 e n;have:=i.inj b o e k s (by rw[l];simp) (by rw[v];simp) m x;grind)|unit=>intro u ns c h;rw[h.2];exact Yj|_=>intro u ns c h;exact h.elim
def Refs.val{mem w' I'}:∀{U u y ns e},Refs γ mem U u ns e->Ax w' I' U y e->∀{c v},sS U y ns c=aa v ->
  ∃(t:Ty) (x z:t.den) (bx:Box) (blk k:Nat),mem c=aa bx/\bx.buf=false/\bx.lk=false/\(bx.ro=false/\bx.tid=0)/\bx.val=.data t x/\v=.data t z/\γ.loc c=aa (blk,k)/\blk∈e/\aiv w' I' t z blk:=by
 intro U;induction U with|pair t U j l =>(intro u y ns e h g c v f;obtain⟨b,r,blk,q,bx,k,rfl,rfl,n,o,p,s,A,C,D,E⟩:=h;obtain⟨i,F,G,H,I⟩:=g;simp only[sS] at f;cases m:Nat.beq c b with|true =>(obtain rfl:=iN m;grind)|false =>grind)|unit=>intro u y ns e h g c v f;cases f|_=>intro u y ns e h;exact h.elim
def Refs.aiw{mem}:∀{U u y ns f},Refs γ mem U u ns f->∀c∈f,∃b v g k,sS U y ns b=aa v/\mem b=aa g/\g.ro=false/\γ.loc b=aa (c,k):=by intro U;induction U with|pair t U l i =>(intro u y ns f h c e;obtain⟨b,r,j,q,g,k,rfl,rfl,x,m,z,A,n,C,o,p⟩:=h;rcases eK.1 e with rfl|e;{exact⟨b,.data t y.1,g,k,by simp[sS],m,n.1,o⟩};obtain⟨D,E,s,F,G,H⟩:=i (y:=y.2) p c e;simp only[sS];grind)|unit=>intro u y ns f h c e;rw[h.2] at e;cases e|_=>intro u y ns f h;exact h.elim
def vR{U y ns σ c}:(Ce U y ns σ).mem c=match sS U y ns c with|some v=>(match σ.mem c with|some b=>aa { b with val:=v }|none=>af)|none=>σ.mem c:=rfl
def bP.refs(h:bP B γ σ.mem w){U u y ns s}(A:Refs γ σ.mem U u ns s){G}(j:yh ⟨w.heap.size,(·∈s),G⟩ w w'){I'}(R:∀b o,γ.I b o->I' b o)(D:∀b o,I' b o->b<w'.heap.size)
  (E:∀b o,I' b o->¬γ.I b o->w.heap.size<=b) (M:Ax w' I' U y s) : bP B ⟨I',γ.loc⟩ (Ce U y ns σ).mem w'/\Ext B γ σ.mem w ⟨I',γ.loc⟩ (Ce U y ns σ).mem w':=by
 have f:∀k,k<w.heap.size->k∉s->w'.heap[k]?=w.heap[k]?:=λk F i=>j.block k λq=>by rcases q with q|q;{grind};grind
 have H:∀blk∈s,B.has blk/\blk<w.heap.size:=λblk i=>by obtain⟨b,bx,k,g1,g2,g3,g4⟩:=A.P1 blk i;exact h.fresh b blk k (by rw[g2];simp) g4
 have l:∀blk∈s,∀o,¬γ.I blk o:=λblk i o C=>by obtain⟨b,bx,k,g1,g2,g3,g4⟩:=A.P1 blk i;have:=(h.sep b bx blk k o g2 g4 C).1;grind
 have J:∀k,¬B.has k->k<w.heap.size:=λk F=>Ye λq=>F (.inl<|gS h.base q);have m:∀c,(Ce U y ns σ).mem c≠af->σ.mem c≠none:=by intro c hc V;apply hc;rw[vR];grind
 have hx:Ext B γ σ.mem w ⟨I',γ.loc⟩ (Ce U y ns σ).mem w' :=
  { below:=⟨j.os,j.tape,j.output,j.size,λk F=>f k (J k F) λi=>F (H k i).1⟩
    I:=R
    s9:=λb o x=>by grind
    cells:=λb o C=>dC (f b (h.xd b o C) λi=>l b i o C)
    boxes:=λc cx hc=>by
     rw[vR,hc];cases hv:sS U y ns c with
     | none=>exact⟨cx,rfl,b8 _,λ_=>⟨rfl,rfl,rfl⟩⟩
     | some v =>
       obtain⟨t,x,z,bx,blk,k,g1,g2,g3,g4,g5,g6,g7,g8,O⟩:=A.val M hv;rw[hc] at g1;obtain rfl:=aU g1;refine⟨_,rfl,b8 _,λ_=>⟨rfl,rfl,?_⟩⟩;subst g6;unfold Box.row;simp only[g2,g5];cases t<;>rfl }
 refine⟨?_,hx⟩;exact
  { dk:=h.IP hx
    base:=gS h.base j.size
    boxes:=λc cx hc=>by
     rw[vR] at hc;cases hv:sS U y ns c with
     | none =>
       rw[hv] at hc;replace hc:σ.mem c=aa cx:=hc;refine(h.boxes c cx hc).keep hx rfl λblk k p=>?_;refine f blk (h.fresh c blk k (by rw[hc];simp) p).2 λi=>?_;obtain⟨b,v,bx,k',g1,g2,g3,g4⟩:=A.aiw (y:=y) blk i;have:=h.inj c b blk k k' (by rw[hc];simp) (by rw[g2];simp) p g4
       grind
     | some v =>
       obtain⟨t,x,z,bx,blk,k,g1,g2,g3,g4,g5,g6,g7,g8,O⟩:=A.val M hv;rw[hv,g1] at hc;obtain rfl:=aU hc;obtain⟨cur,tid,fr,j1,j2,S⟩:=O;simp only[g2];subst g6;exact⟨blk,k,cur,tid,fr,g7,j1,j2,.inl g4.2,S⟩
    inj:=λc d blk k k' hc T=>h.inj c d blk k k' (m c hc) (m d T)
    fresh:=λc blk k hc p=>by have:=h.fresh c blk k (m c hc) p;exact⟨this.1,Hq this.2 j.size⟩
    xd:=D
    sep:=λc cx blk k r hc p C=>by
     obtain⟨g,hc0,hro,air,K⟩:∃g,σ.mem c=aa g/\cx.ro=g.ro/\cx.row=g.row/\cx.buf=g.buf:=by
      rw[vR] at hc;cases hv:sS U y ns c with
      | none=>rw[hv] at hc;exact⟨cx,hc,rfl,rfl,rfl⟩
      | some v =>
        obtain⟨t,x,z,bx,afl,k',g1,g2,g3,g4,g5,g6,g7,g8,O⟩:=A.val M hv
        grind
     by_cases L:γ.I blk r
     .have:=h.sep c g blk k r hc0 p L;exact⟨by rw[hro];exact this.1,λi e n Q=>this.2 (by rw[<-K];exact i) e n (by rw[<-air];exact Q)⟩
     .have W:=E blk r C L;have X:=(h.fresh c blk k (by rw[hc0];simp) p).2;omega }
def afq{mem t v x val}(b:cK γ mem w v .val [val])(h:toD t v=aa x):∃c,bZ w γ.I t x c/\val=cX t c:=by
 unfold toD at h;split at h
 .rename_i u y;obtain⟨q,f⟩:=Ty.lZ h;subst q;subst f;exact et.1 b
 {split at h;{(rename_i e;obtain rfl:=aU h;obtain rfl:val=_:=by simpa [cK] using b);exact⟨[.slice af 0 0],.inl ⟨⟨af,rfl⟩,rfl⟩,rfl⟩};cases h};cases h
def YI{t v x}(h:toS t v=aa x):v=.data t x:=by
 unfold toS at h;split at h
 {obtain⟨q,b⟩:=Ty.lZ h;grind};cases h
def SW(hm:bP B γ σ.mem w):∀{ps A U vs s x u ns},nH γ σ.mem w vs s->u7 σ ps A U vs=aa (x,u,ns) ->
  ∃e,YH w γ.I ps A U x s e/\Refs γ σ.mem U u ns e/\Ax w γ.I U u e:=by
 intro ps;induction ps with
 | nil =>(intro A U vs s x u ns y h;cases A<;>first|(cases h;done)|skip);(cases U<;>first|(cases h;done)|skip);cases vs with|cons v r=>cases h|nil =>(obtain⟨rfl,q⟩:=b9 (aU h);obtain⟨rfl,rfl⟩:=b9 q;have hx:s=[]:=by have:=y.1;simpa using this);exact⟨[],⟨rfl,rfl,hx,rfl⟩,⟨rfl,rfl⟩,rfl⟩
 | cons p ps V =>
   intro A U vs s x u ns y h;cases p with
   | false =>(cases A<;>first|(cases h;done)|skip);cases vs with|nil=>cases h|cons v r =>simp only[u7] at h;split at h;{rename_i x1 y1 u1 m C D;obtain⟨rfl,q⟩:=b9 (aU h);obtain⟨rfl,rfl⟩:=b9 q;obtain⟨E,c,rfl,F,G⟩:=y.cons;obtain⟨e,H,J,K⟩:=V G D;obtain⟨cs,c1,c2⟩:=afq F C;exact⟨e,⟨cs,c,by rw[c2],c1,H⟩,J,K⟩};cases h
   | true =>
     (cases U<;>first|(cases h;done)|skip);cases vs with|nil=>cases h|cons v0 r=>
     (cases v0<;>first|(cases h;done)|skip);rename_i b L M;cases M with|cons _ _=>cases h|nil=>
     simp only[u7] at h;split at h
     case h_2=>cases h
     rename_i n O;cases f:(Nat.beq n.aY L&&!n.buf&&!n.lk&&!n.ro&&Nat.beq n.tid 0) with
     | false=>rw[f] at h;cases h
     | true =>
       rw[f] at h;simp only[gC,Hr] at f;obtain⟨⟨⟨⟨t,j⟩,Q⟩,R⟩,S⟩:=f;split at h
       case h_2=>cases h
       rename_i x1 y1 u1 m C D;cases g:du m b with
       | true=>rw[g] at h;cases h
       | false =>
         rw[g] at h;obtain⟨rfl,q⟩:=b9 (aU h);obtain⟨rfl,rfl⟩:=b9 q;obtain⟨E,c,rfl,F,G⟩:=y.cons;obtain⟨e,H,J,K⟩:=V G D;obtain⟨i,k,W,z⟩:=bC O (iN t) F.2;have z:=D4 z;simp only[er] at z;have l:=YI C;have o:=hm.boxes b n O;unfold e7 at o;rw[j] at o;obtain⟨X,cap,T,tid,fr,Y,a2,a3,Z,a4⟩:=o;rw[W] at Y;obtain⟨rfl,rfl⟩:=b9 (aU Y);rw[l] at a4;exact⟨i::e,⟨i,c,e,by rw[z],rfl,H⟩,⟨b,m,i,e,n,k,rfl,rfl,(λhq=>by rw[P0.2 hq] at g;cases g),O,j,Q,⟨R,(iN S)⟩,l,W,J⟩,i,e,rfl,⟨T,tid,fr,a2,a3,a4⟩,K⟩
end
end Go.Ge
